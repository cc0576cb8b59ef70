import PyProof.Rows.All
import HandS.Zip
import HandS.ForMost
import HandS.Iter
import KE.GoesEnum
import KE.GoesMore
import HandS.Star
import HandS.TupAny
import HandS.TupMul
import HandS.Deep
import HandS.IsInst
import HandS.TupLe
import HandS.Style
import HandS.Conv
import HandS.Wide
import HandS.EndBits
import HandS.SortInts
import KE.SortData
import PyProof.ReprRoads
import PyProof.ReprBulk
import KE.KDictSum
import KE.KDictCopyH
import HandS.ExcValue
import KE.KDictPairs
import KE.KDictKeyed
import HandS.Comp
import HandS.Ends
import PySem.Challenge.RW_signedframes_k62_whole_how_many_arrows
set_option Elab.async false
set_option linter.all false
set_option maxRecDepth 100000
/-! Pf0z: zip(.., .., strict=True) over lists and tuples. -/
namespace PfZ
open PySem
open PySem.Sem (wp)
/-- a list, a tuple -/
inductive Kd where
  | l | t
def ItAt : Kd → Heap → Addr → Addr → Nat → Prop
  | .l, h, it, a, i => h.IsListIter it a i
  | .t, h, it, a, i => h.IsTupleIter it a i
def SrcIs : Kd → Heap → Addr → Array Value → Prop
  | .l, h, a, xs => h.IsList a xs
  | .t, h, a, xs => h.IsTuple a xs
def itObj : Kd → Addr → Obj
  | .l, a => { cls := .type "list_iterator", data := .fields #[.ref a, .int 0 0] }
  | .t, a => { cls := .type "tuple_iterator", data := .fields #[.ref a, .int 0 0] }
theorem ItAt.at {k : Kd} {h h' : Heap} {it a : Addr} {i : Nat} (x : ItAt k h it a i) (e : ∀ o, h.get? it = some o → h'.get? it = some o) : ItAt k h' it a i := by
  cases k
  · exact Heap.IsListIter.at x e
  · exact Heap.IsTupleIter.at x e
theorem ItAt.obj {k : Kd} {h : Heap} {it a : Addr} {i : Nat} (x : ItAt k h it a i) : ∃ o, h.get? it = some o ∧ o.data = .fields #[.ref a, .int i 0] := by
  cases k
  · obtain ⟨o, e, _, d⟩ := x; exact ⟨o, e, d⟩
  · obtain ⟨o, e, _, d⟩ := x; exact ⟨o, e, d⟩
theorem ItAt.extBut {k : Kd} {h h' : Heap} {it a b : Addr} {i : Nat} (x : ItAt k h it a i) (hs : Heap.ExtBut b h h') (n : it ≠ b) : ItAt k h' it a i := x.at fun o e => hs it o n e
theorem SrcIs.at {k : Kd} {h h' : Heap} {a : Addr} {xs : Array Value} (x : SrcIs k h a xs) (e : ∀ o, h.get? a = some o → h'.get? a = some o) : SrcIs k h' a xs := by
  cases k
  · obtain ⟨o, ho, r⟩ := x; exact ⟨o, e o ho, r⟩
  · obtain ⟨o, ho, r⟩ := x; exact ⟨o, e o ho, r⟩
theorem SrcIs.extBut {k : Kd} {h h' : Heap} {a b : Addr} {xs : Array Value} (x : SrcIs k h a xs) (hs : Heap.ExtBut b h h') (n : a ≠ b) : SrcIs k h' a xs := x.at fun o e => hs a o n e
theorem SrcIs.lt {k : Kd} {h : Heap} {a : Addr} {xs : Array Value} (x : SrcIs k h a xs) : a < h.objs.size := by
  cases k
  · obtain ⟨o, ho, _⟩ := x; exact Heap.lt_size ho
  · obtain ⟨o, ho, _⟩ := x; exact Heap.lt_size ho
abbrev IsZipS (h : Heap) (z TI TO : Addr) (f0 : Value) : Prop :=
  h.get? z = some { cls := .type "zip", dict := none, data := .fields #[f0, .bool false, .bool true, .ref TI, .ref TO], slots := #[] }
section
variable {prog : Program} {w : World} {A : Around} {E : Value → Shared → Prop} {s : Shared}
theorem nextOf_item {k : Kd} {it l : Addr} {i : Nat} {items : Array Value} {x : Value} {Q : Value → Shared → Prop} (hit : ItAt k s.heap it l i) (hl : SrcIs k s.heap l items) (hx : items[i]? = some x)
    (hQ : ∀ h', ItAt k h' it l (i + 1) → Heap.SameBut it s.heap h' → Q x { s with heap := h' }) : wpAny (model prog w) A (Builtin.SmallTypes.nextOf (.ref it)) Q E s := by
  cases k
  · exact wpAny_nextOf_list_item hit hl hx hQ
  · exact RZ.nextOf_tuple_item hit hl hx hQ
theorem nextOf_end {k : Kd} {it l : Addr} {i : Nat} {items : Array Value} {Q : Value → Shared → Prop} (hh : A.handled = none) (hit : ItAt k s.heap it l i) (hl : SrcIs k s.heap l items) (hx : items[i]? = none)
    (hE : ∀ h' e, Heap.ExtBut it s.heap h' → (∃ o, h'.get? e = some o ∧ o.cls = .type "StopIteration") → E (.ref e) { s with heap := h' }) : wpAny (model prog w) A (Builtin.SmallTypes.nextOf (.ref it)) Q E s := by
  cases k
  · exact wpAny_nextOf_list_end hh hit hl hx hE
  · exact RZ.nextOf_tuple_end hh hit hl hx hE
theorem orEnd_item {k : Kd} {it l : Addr} {i : Nat} {items : Array Value} {x : Value} {Q : Option Value → Shared → Prop} (hit : ItAt k s.heap it l i) (hl : SrcIs k s.heap l items) (hx : items[i]? = some x)
    (hQ : ∀ h', ItAt k h' it l (i + 1) → Heap.SameBut it s.heap h' → Q (some x) { s with heap := h' }) : wpAny (model prog w) A (Builtin.SmallTypes.nextOrEnd (.ref it)) Q E s := by
  unfold Builtin.SmallTypes.nextOrEnd
  exact wpAny_bind (wpAny_attempt (nextOf_item hit hl hx fun h' a b => wpAny_pure (hQ h' a b)))
theorem orEnd_end {k : Kd} {it l : Addr} {i : Nat} {items : Array Value} {Q : Option Value → Shared → Prop} (hh : A.handled = none) (hit : ItAt k s.heap it l i) (hl : SrcIs k s.heap l items) (hx : items[i]? = none)
    (hQ : ∀ h', Heap.ExtBut it s.heap h' → Q none { s with heap := h' }) : wpAny (model prog w) A (Builtin.SmallTypes.nextOrEnd (.ref it)) Q E s := by
  unfold Builtin.SmallTypes.nextOrEnd
  refine wpAny_bind (wpAny_attempt (nextOf_end hh hit hl hx fun h' e a he => ?_))
  obtain ⟨o, ho, hc⟩ := he
  refine wpAny_bind (wpAny_isInstance (T := "StopIteration") (b := true) ⟨o, ho, hc⟩ isSubtype_stop ?_)
  exact wpAny_pure (hQ _ a)
theorem iter_src {k : Kd} {l : Addr} {items : Array Value} {Q : Value → Shared → Prop} (hl : SrcIs k s.heap l items) (hQ : Q (.ref s.heap.objs.size) { s with heap := s.heap.push (itObj k l) }) : wpAny (model prog w) A (pyIter (.ref l)) Q E s := by
  cases k
  · exact wpAny_pyIter_list hl hQ
  · exact wpAny_pyIter_tuple hl hQ

theorem zipS_next_item {k₁ k₂ : Kd} {z TI TO i1 i2 l1 l2 : Addr} {k1 k2 : Nat} {xs ys : Array Value} {x y a b : Value} {Q : Value → Shared → Prop} (D : ZipApart z TI TO i1 i2 l1 l2)
    (hz : IsZipS s.heap z TI TO .none) (hTI : IsPair s.heap TI (.ref i1) (.ref i2)) (hTO : IsPair s.heap TO a b)
    (h1 : ItAt k₁ s.heap i1 l1 k1) (h2 : ItAt k₂ s.heap i2 l2 k2) (hl1 : SrcIs k₁ s.heap l1 xs) (hl2 : SrcIs k₂ s.heap l2 ys) (hx : xs[k1]? = some x) (hy : ys[k2]? = some y)
    (hQ : ∀ h', IsZipS h' z TI TO (rawInt s.heap.objs.size) → IsPair h' TO x y → ItAt k₁ h' i1 l1 (k1 + 1) → ItAt k₂ h' i2 l2 (k2 + 1) → IsPair h' s.heap.objs.size x y → h'.objs.size = s.heap.objs.size + 1 →
      (∀ c o, c ≠ z → c ≠ TO → c ≠ i1 → c ≠ i2 → s.heap.get? c = some o → h'.get? c = some o) → Q (.ref s.heap.objs.size) { s with heap := h' }) :
    wpAny (model prog w) A (Builtin.«zip.__next__» ⟨[.ref z], []⟩) (fun fin s' => ∃ v, fin = .done (.ret v) ∧ Q v s') E s := by
  show wpAny _ _ (field (.ref z) 2 >>= _) _ _ _
  refine wpAny_bind (wpAny_field hz rfl (x := .bool true) rfl ?_)
  show wpAny _ _ (field (.ref z) 3 >>= _) _ _ _
  refine wpAny_bind (wpAny_field hz rfl (x := .ref TI) rfl ?_)
  refine wpAny_bind (wpAny_seqItems hTI rfl ?_)
  show wpAny _ _ (Builtin.SmallTypes.ownedTupleIsFree (.ref z) >>= _) _ _ _
  refine wpAny_bind ?_
  unfold Builtin.SmallTypes.ownedTupleIsFree
  refine wpAny_bind (wpAny_field hz rfl (x := .none) rfl (wpAny_pure ?_))
  simp only [if_true]
  refine wpAny_bind (wpAny_rule ?_)
  refine wpAny_bind (wpAny_field hz rfl (x := .ref TO) rfl ?_)
  refine wpAny_bind (wpAny_setField_rec hz (by simp) fun h₁ hz₁ hs₁ => ?_)
  replace hz₁ : IsZipS h₁ z TI TO .ellipsis := hz₁
  refine wpAny_bind ?_
  simp only [List.zipIdx_cons, List.zipIdx_nil, List.forIn_cons, List.forIn_nil]
  refine wpAny_bind (wpAny_bind (wpAny_onRaise ?_))
  show wpAny _ _ (Builtin.SmallTypes.nextOrEnd (.ref i1)) _ _ _
  refine orEnd_item (h1.extBut hs₁.extBut D.i1z) (hl1.extBut hs₁.extBut D.l1z) hx fun h₂ h1₂ hs₂ => ?_
  have hTO₂ : IsPair h₂ TO a b := hs₂.extBut _ _ D.TOi1 (hs₁.extBut _ _ D.TOz hTO)
  refine wpAny_bind (wpAny_seqItems hTO₂ rfl ?_)
  refine wpAny_bind (wpAny_updateSeq_pair hTO₂ fun h₃ hTO₃ hs₃ => ?_)
  replace hTO₃ : IsPair h₃ TO x b := hTO₃
  refine wpAny_bind (wpAny_letGo (wpAny_pure ?_))
  refine wpAny_bind (wpAny_bind (wpAny_onRaise ?_))
  show wpAny _ _ (Builtin.SmallTypes.nextOrEnd (.ref i2)) _ _ _
  refine orEnd_item (((h2.extBut hs₁.extBut D.i2z).extBut hs₂.extBut D.i12.symm).extBut hs₃.extBut D.TOi2.symm)
    (((hl2.extBut hs₁.extBut D.l2z).extBut hs₂.extBut D.l2i1).extBut hs₃.extBut D.l2TO) hy fun h₄ h2₄ hs₄ => ?_
  have hTO₄ : IsPair h₄ TO x b := hs₄.extBut _ _ D.TOi2 hTO₃
  refine wpAny_bind (wpAny_seqItems hTO₄ rfl ?_)
  refine wpAny_bind (wpAny_updateSeq_pair hTO₄ fun h₅ hTO₅ hs₅ => ?_)
  replace hTO₅ : IsPair h₅ TO x y := hTO₅
  refine wpAny_bind (wpAny_letGo (wpAny_pure (wpAny_pure ?_)))
  refine wpAny_bind (wpAny_seqItems hTO₅ rfl ?_)
  refine wpAny_bind (wpAny_newTuple ?_)
  have hsz : h₅.objs.size = s.heap.objs.size := by rw [hs₅.1, hs₄.1, hs₃.1, hs₂.1, hs₁.1]
  have hz₅ : IsZipS h₅ z TI TO .ellipsis := hs₅.extBut _ _ D.TOz.symm (hs₄.extBut _ _ D.i2z.symm (hs₃.extBut _ _ D.TOz.symm (hs₂.extBut _ _ D.i1z.symm hz₁)))
  have hk₅ : ∀ c o, c ≠ z → c ≠ TO → c ≠ i1 → c ≠ i2 → s.heap.get? c = some o → h₅.get? c = some o := fun c o c1 c2 c3 c4 e =>
    hs₅.extBut _ _ c2 (hs₄.extBut _ _ c4 (hs₃.extBut _ _ c2 (hs₂.extBut _ _ c3 (hs₁.extBut _ _ c1 e))))
  have h1₅ : ItAt k₁ h₅ i1 l1 (k1 + 1) := ((h1₂.extBut hs₃.extBut D.TOi1.symm).extBut hs₄.extBut D.i12).extBut hs₅.extBut D.TOi1.symm
  have h2₅ : ItAt k₂ h₅ i2 l2 (k2 + 1) := h2₄.extBut hs₅.extBut D.TOi2.symm
  have hzlt : z < h₅.objs.size := Heap.lt_size hz₅
  have hTOlt : TO < h₅.objs.size := Heap.lt_size hTO₅
  show wpAny _ _ (Builtin.SmallTypes.ownedTupleHandOut (.ref z) (.ref h₅.objs.size) >>= _) _ _ _
  refine wpAny_bind ?_
  unfold Builtin.SmallTypes.ownedTupleHandOut
  have hz₆ : IsZipS (h₅.push { cls := .type "tuple", data := .seq #[x, y] }) z TI TO .ellipsis := Heap.get?_push_of_some _ hz₅
  refine wpAny_bind (wpAny_setField_rec hz₆ (by simp) fun h₇ hz₇ hs₇ => ?_)
  replace hz₇ : IsZipS h₇ z TI TO (rawInt h₅.objs.size) := hz₇
  refine wpAny_setField_rec hz₇ (by simp) fun h₈ hz₈ hs₈ => ?_
  replace hz₈ : IsZipS h₈ z TI TO (rawInt h₅.objs.size) := hz₈
  have up : ∀ c o, c ≠ z → h₅.get? c = some o → h₈.get? c = some o := fun c o c1 e => hs₈.extBut _ _ c1 (hs₇.extBut _ _ c1 (Heap.get?_push_of_some _ e))
  have hT₈ : IsPair h₈ h₅.objs.size x y := hs₈.extBut _ _ (Nat.ne_of_gt hzlt) (hs₇.extBut _ _ (Nat.ne_of_gt hzlt) (Heap.get?_push_size _ rfl))
  have hz8 : h₈.objs.size = h₅.objs.size + 1 := by rw [hs₈.1, hs₇.1, Heap.size_push]
  rw [hsz] at hz₈ hT₈ hz8
  refine wpAny_pure ⟨_, rfl, ?_⟩
  show Q (.ref h₅.objs.size) _
  rw [hsz]
  exact hQ h₈ hz₈ (up _ _ D.TOz hTO₅) (h1₅.at fun o e => up _ o D.i1z e) (h2₅.at fun o e => up _ o D.i2z e) hT₈ hz8 fun c o c1 c2 c3 c4 e => up c o c1 (hk₅ c o c1 c2 c3 c4 e)

theorem zipS_next_end {k₁ k₂ : Kd} {z TI TO i1 i2 l1 l2 : Addr} {k1 k2 : Nat} {xs ys : Array Value} {a b : Value} {Q : Fin → Shared → Prop} (hh : A.handled = none) (D : ZipApart z TI TO i1 i2 l1 l2)
    (hz : IsZipS s.heap z TI TO .none) (hTI : IsPair s.heap TI (.ref i1) (.ref i2)) (hTO : IsPair s.heap TO a b)
    (h1 : ItAt k₁ s.heap i1 l1 k1) (h2 : ItAt k₂ s.heap i2 l2 k2) (hl1 : SrcIs k₁ s.heap l1 xs) (hl2 : SrcIs k₂ s.heap l2 ys) (hx : xs[k1]? = none) (hy : ys[k2]? = none)
    (hE : ∀ h' e, (∀ c o, c ≠ z → c ≠ TO → c ≠ i1 → c ≠ i2 → s.heap.get? c = some o → h'.get? c = some o) → (∃ o, h'.get? e = some o ∧ o.cls = .type "StopIteration") → E (.ref e) { s with heap := h' }) :
    wpAny (model prog w) A (Builtin.«zip.__next__» ⟨[.ref z], []⟩) Q E s := by
  show wpAny _ _ (field (.ref z) 2 >>= _) _ _ _
  refine wpAny_bind (wpAny_field hz rfl (x := .bool true) rfl ?_)
  show wpAny _ _ (field (.ref z) 3 >>= _) _ _ _
  refine wpAny_bind (wpAny_field hz rfl (x := .ref TI) rfl ?_)
  refine wpAny_bind (wpAny_seqItems hTI rfl ?_)
  show wpAny _ _ (Builtin.SmallTypes.ownedTupleIsFree (.ref z) >>= _) _ _ _
  refine wpAny_bind ?_
  unfold Builtin.SmallTypes.ownedTupleIsFree
  refine wpAny_bind (wpAny_field hz rfl (x := .none) rfl (wpAny_pure ?_))
  simp only [if_true]
  refine wpAny_bind (wpAny_rule ?_)
  refine wpAny_bind (wpAny_field hz rfl (x := .ref TO) rfl ?_)
  refine wpAny_bind (wpAny_setField_rec hz (by simp) fun h₁ hz₁ hs₁ => ?_)
  replace hz₁ : IsZipS h₁ z TI TO .ellipsis := hz₁
  refine wpAny_bind ?_
  simp only [List.zipIdx_cons, List.zipIdx_nil, List.forIn_cons, List.forIn_nil]
  refine wpAny_bind (wpAny_bind (wpAny_onRaise ?_))
  show wpAny _ _ (Builtin.SmallTypes.nextOrEnd (.ref i1)) _ _ _
  refine orEnd_end hh (h1.extBut hs₁.extBut D.i1z) (hl1.extBut hs₁.extBut D.l1z) hx fun h₂ hs₂ => ?_
  have hz₂ : IsZipS h₂ z TI TO .ellipsis := hs₂ _ _ D.i1z.symm hz₁
  refine wpAny_bind (wpAny_setField_rec hz₂ (by simp) fun h₃ _ hs₃ => ?_)
  refine wpAny_bind ?_
  show wpAny _ _ (forIn [(Value.ref i2, 1)] _ _ >>= _) _ _ _
  refine wpAny_bind ?_
  simp only [List.forIn_cons, List.forIn_nil]
  refine wpAny_bind ?_
  refine wpAny_bind (orEnd_end hh (((h2.extBut hs₁.extBut D.i2z).extBut hs₂ D.i12.symm).extBut hs₃.extBut D.i2z)
      (((hl2.extBut hs₁.extBut D.l2z).extBut hs₂ D.l2i1).extBut hs₃.extBut D.l2z) hy fun h₄ hs₄ => ?_)
  simp only [Option.isSome_none, Bool.false_eq_true, if_false]
  refine wpAny_pure (wpAny_pure ?_)
  refine wpAny_bind (wpAny_rule ?_)
  show wpAny _ _ (newExc (.type "StopIteration") [] >>= _) _ _ _
  refine wpAny_bind ?_
  simp only [newExc, newTuple]
  refine wpAny_bind (wpAny_newObj_type ?_ (by size_fits))
  refine wpAny_bind (m := firstArgMember _ _) (wpAny_of_eq (a := Value.none) (by first | rfl | (simp only [firstArgMember]; rfl)) ?_)
  refine wpAny_newObj_type ?_ (by size_fits)
  simp only [raiseNew]
  refine wpAny_bind (wpAny_handled ?_)
  first | rw [show A.in1.handled = none from hh] | rw [hh]
  refine wpAny_bind (wpAny_pure (wpAny_throw ?_))
  refine hE _ _ (fun c o c1 c2 c3 c4 x => Heap.get?_push_of_some _ (Heap.get?_push_of_some _ (hs₄ _ _ c4 (hs₃.extBut _ _ c1 (hs₂ _ _ c3 (hs₁.extBut _ _ c1 x)))))) ⟨_, Heap.get?_push_size _ rfl, rfl⟩
theorem pyNext_zipS_item {k₁ k₂ : Kd} {z TI TO i1 i2 l1 l2 : Addr} {k1 k2 : Nat} {xs ys : Array Value} {x y a b : Value} {Q : Option Value → Shared → Prop} (D : ZipApart z TI TO i1 i2 l1 l2)
    (hz : IsZipS s.heap z TI TO .none) (hTI : IsPair s.heap TI (.ref i1) (.ref i2)) (hTO : IsPair s.heap TO a b)
    (h1 : ItAt k₁ s.heap i1 l1 k1) (h2 : ItAt k₂ s.heap i2 l2 k2) (hl1 : SrcIs k₁ s.heap l1 xs) (hl2 : SrcIs k₂ s.heap l2 ys) (hx : xs[k1]? = some x) (hy : ys[k2]? = some y)
    (hQ : ∀ h', IsZipS h' z TI TO (rawInt s.heap.objs.size) → IsPair h' TO x y → ItAt k₁ h' i1 l1 (k1 + 1) → ItAt k₂ h' i2 l2 (k2 + 1) → IsPair h' s.heap.objs.size x y → h'.objs.size = s.heap.objs.size + 1 →
      (∀ c o, c ≠ z → c ≠ TO → c ≠ i1 → c ≠ i2 → s.heap.get? c = some o → h'.get? c = some o) → Q (some (.ref s.heap.objs.size)) { s with heap := h' }) :
    wpAny (model prog w) A (pyNext (.ref z)) Q E s := by
  have hT : s.TypeIs (.ref z) "zip" := ⟨_, hz, rfl⟩
  unfold pyNext
  exact wpAny_bind (wpAny_attempt (wpAny_callSpecial?_slot (name := Str.ofString "__next__") hT F.slot_zip_next
    (wpAny_call_entry F.slot_zip_next hT F.entry_zip_next
      (zipS_next_item D hz hTI hTO h1 h2 hl1 hl2 hx hy fun h' a1 a2 a3 a4 a5 a6 a7 => wpAny_pure (hQ h' a1 a2 a3 a4 a5 a6 a7)) (F.args_zip_next_1 _))))
theorem pyNext_zipS_end {k₁ k₂ : Kd} {z TI TO i1 i2 l1 l2 : Addr} {k1 k2 : Nat} {xs ys : Array Value} {a b : Value} {Q : Option Value → Shared → Prop} (hh : A.handled = none) (D : ZipApart z TI TO i1 i2 l1 l2)
    (hz : IsZipS s.heap z TI TO .none) (hTI : IsPair s.heap TI (.ref i1) (.ref i2)) (hTO : IsPair s.heap TO a b)
    (h1 : ItAt k₁ s.heap i1 l1 k1) (h2 : ItAt k₂ s.heap i2 l2 k2) (hl1 : SrcIs k₁ s.heap l1 xs) (hl2 : SrcIs k₂ s.heap l2 ys) (hx : xs[k1]? = none) (hy : ys[k2]? = none)
    (hQ : ∀ h', (∀ c o, c ≠ z → c ≠ TO → c ≠ i1 → c ≠ i2 → s.heap.get? c = some o → h'.get? c = some o) → Q none { s with heap := h' }) : wpAny (model prog w) A (pyNext (.ref z)) Q E s := by
  have hT : s.TypeIs (.ref z) "zip" := ⟨_, hz, rfl⟩
  unfold pyNext
  refine wpAny_bind (wpAny_attempt (wpAny_callSpecial?_slot (name := Str.ofString "__next__") hT F.slot_zip_next
    (wpAny_call_entry F.slot_zip_next hT F.entry_zip_next (zipS_next_end hh D hz hTI hTO h1 h2 hl1 hl2 hx hy fun h' e hk he => ?_) (F.args_zip_next_1 _))))
  obtain ⟨o, ho, hc⟩ := he
  refine wpAny_bind (wpAny_isInstance (T := "StopIteration") (b := true) ⟨o, ho, hc⟩ isSubtype_stop ?_)
  exact wpAny_pure (hQ _ hk)
theorem letGo_zipS {elts : List Expr} {x1} {pos : Pos} {z TI TO T : Addr} {Q : Unit → Shared → Prop} (hz : IsZipS s.heap z TI TO (rawInt T))
    (hQ : ∀ h', IsZipS h' z TI TO .none → Heap.SameBut z s.heap h' → Q () { s with heap := h' }) :
    wpAny (model prog w) A (letOwnedTupleGo (.Tuple elts x1 pos) (.ref z) (.ref T)) Q E s := by
  unfold letOwnedTupleGo
  refine wpAny_bind (wpAny_load hz ?_)
  show wpAny _ _ (if (["enumerate", "zip", "dict_itemiterator", "dict_reverseitemiterator", "odict_iterator", "itertools.zip_longest", "itertools.pairwise"].contains "zip" &&
      (#[rawInt T, .bool false, .bool true, .ref TI, .ref TO] : Array Value)[0]? == some (rawInt T)) = true then _ else _) Q E s
  rw [if_pos (by simp)]
  refine wpAny_bind (wpAny_rule ?_)
  show wpAny _ _ (setField (.ref z) 0 .none) Q E s
  exact wpAny_setField_rec hz (by simp) fun h' hz' hs' => hQ h' hz' hs'
theorem pyIter_zipS {z TI TO : Addr} {f0 : Value} {Q : Value → Shared → Prop} (hz : IsZipS s.heap z TI TO f0) (h : Q (.ref z) s) : wpAny (model prog w) A (pyIter (.ref z)) Q E s := by
  have hT : s.TypeIs (.ref z) "zip" := ⟨_, hz, rfl⟩
  refine wpAny_pyIter_slot hT F.slot_zip_iter (wpAny_call_entry F.slot_zip_iter hT F.entry_zip_iter ?_ (F.args_zip_iter_1 _))
  show wpAny _ _ (ret (.ref z)) _ _ s
  exact wpAny_pure ⟨_, rfl, "zip", _, hT, F.slot_zip_next.lookup, h⟩
end
/-! ### the call -/
section
variable {prog : Program} {w : World} {A : Around} {E : Value → Shared → Prop} {s : Shared}
theorem units_kw (T : String) (args : List Value) (kw : List (Str × Value)) : (Code.builtin "type.__call__" ⟨.type T :: args, kw⟩).cUnits = 1 := rfl
theorem weight_kw (T : String) (args : List Value) (kw : List (Str × Value)) : (Code.builtin "type.__call__" ⟨.type T :: args, kw⟩).weight = 0 := rfl
abbrev kwS : List (Str × Value) := [(Str.ofString "strict", .bool true)]
theorem typeCall_S (a b : Value) : checkTypeCall "zip" ⟨[a, b], kwS⟩ = pure () := by kernel_rfl
theorem newCall_S (a b : Value) : checkBuiltinCall "zip.__new__" ⟨[.type "zip", a, b], kwS⟩ = pure () := by kernel_rfl
theorem args_init_S (a b c : Value) : argsOk "object.__init__" ⟨[a, b, c], kwS⟩ := by
  unfold argsOk; rw [signature?_of (id := "object.__init__") (n := ['_', '_', 't', 'i', 'n', 'i', '_', '_']) (o := ['t', 'c', 'e', 'j', 'b', 'o']) (by kernel_rfl) F.owner_object]; kernel_rfl
theorem init_meets_S {self a b : Value} (hl : typeLookup (.type "zip") "__init__" = pure (some (.builtin "object.__init__")))
    (hm : Bind.madeBy (.type "zip") = pure (some "zip.__new__")) (hne : (some "zip.__new__" != some "object.__new__") = true) :
    Meets (Builtin.«object.__init__» ⟨[self, a, b], kwS⟩) (fun _ R s => s.TypeIs self "zip" ∧ R (.ok (.ret .none)) s) := by
  refine Meets.of_wp fun prog w A R s hs => ?_
  obtain ⟨hT, hq⟩ := hs
  repeat (any_goals (first | assumption | wp_step))
  exact ⟨_, rfl, hq⟩
theorem meets_zipS_new (k1 k2 : Kd) (l1 l2 : Addr) (xs ys : Array Value) :
    Meets (Builtin.«zip.__new__» ⟨[.type "zip", .ref l1, .ref l2], kwS⟩) (fun _ R s => SrcIs k1 s.heap l1 xs ∧ SrcIs k2 s.heap l2 ys ∧
      ∀ h', IsZipS h' (s.heap.objs.size + 4) (s.heap.objs.size + 2) (s.heap.objs.size + 3) .none → IsPair h' (s.heap.objs.size + 2) (.ref s.heap.objs.size) (.ref (s.heap.objs.size + 1)) →
      IsPair h' (s.heap.objs.size + 3) .none .none → ItAt k1 h' s.heap.objs.size l1 0 → ItAt k2 h' (s.heap.objs.size + 1) l2 0 → h'.objs.size = s.heap.objs.size + 5 →
      (∀ c o, s.heap.get? c = some o → h'.get? c = some o) → R (.ok (.ret (.ref (s.heap.objs.size + 4)))) { s with heap := h' }) :=
  .of_wp fun prog w A R s h => by
    obtain ⟨hp, g, d, tk, os⟩ := s; obtain ⟨hl1, hl2, h⟩ := h
    have hsub := sub_zip
    have hL1 : SrcIs k1 (Shared.heap ⟨hp, g, d, tk, os⟩) l1 xs := hl1
    have hL2 : SrcIs k2 (Shared.heap ⟨hp.push (itObj k1 l1), g, d, tk, os⟩) l2 ys := SrcIs.at hl2 fun o e => Heap.get?_push_of_some _ e
    wp_walk using iter_src hL1, iter_src hL2
    refine ⟨_, rfl, ?_⟩
    have z1 : (hp.push (itObj k1 l1)).objs.size = hp.objs.size + 1 := Heap.size_push ..
    have z2 : ((hp.push (itObj k1 l1)).push (itObj k2 l2)).objs.size = hp.objs.size + 2 := by rw [Heap.size_push, z1]
    have z3 : (((hp.push (itObj k1 l1)).push (itObj k2 l2)).push { cls := .type "tuple", data := .seq #[.ref hp.objs.size, .ref (hp.push (itObj k1 l1)).objs.size] }).objs.size = hp.objs.size + 3 := by rw [Heap.size_push, z2]
    have z4 : ((((hp.push (itObj k1 l1)).push (itObj k2 l2)).push { cls := .type "tuple", data := .seq #[.ref hp.objs.size, .ref (hp.push (itObj k1 l1)).objs.size] }).push { cls := .type "tuple", data := .seq #[.none, .none] }).objs.size = hp.objs.size + 4 := by rw [Heap.size_push, z3]
    have z5 : (((((hp.push (itObj k1 l1)).push (itObj k2 l2)).push { cls := .type "tuple", data := .seq #[.ref hp.objs.size, .ref (hp.push (itObj k1 l1)).objs.size] }).push { cls := .type "tuple", data := .seq #[.none, .none] }).push { cls := .type "zip", data := .fields #[.none, .bool false, .bool true, .ref ((hp.push (itObj k1 l1)).push (itObj k2 l2)).objs.size, .ref (((hp.push (itObj k1 l1)).push (itObj k2 l2)).push { cls := .type "tuple", data := .seq #[.ref hp.objs.size, .ref (hp.push (itObj k1 l1)).objs.size] }).objs.size] }).objs.size = hp.objs.size + 5 := by rw [Heap.size_push, z4]
    have ht := h (((((hp.push (itObj k1 l1)).push (itObj k2 l2)).push { cls := .type "tuple", data := .seq #[.ref hp.objs.size, .ref (hp.push (itObj k1 l1)).objs.size] }).push { cls := .type "tuple", data := .seq #[.none, .none] }).push { cls := .type "zip", data := .fields #[.none, .bool false, .bool true, .ref ((hp.push (itObj k1 l1)).push (itObj k2 l2)).objs.size, .ref (((hp.push (itObj k1 l1)).push (itObj k2 l2)).push { cls := .type "tuple", data := .seq #[.ref hp.objs.size, .ref (hp.push (itObj k1 l1)).objs.size] }).objs.size] })
      ?_ ?_ ?_ ?_ ?_ z5 ?_
    · show R (.ok (.ret (.ref (((((hp.push (itObj k1 l1)).push (itObj k2 l2)).push { cls := .type "tuple", data := .seq #[.ref hp.objs.size, .ref (hp.push (itObj k1 l1)).objs.size] }).push { cls := .type "tuple", data := .seq #[.none, .none] }).objs.size)))) _
      rw [z4]
      exact ht
    · have g5 := Heap.get?_push_size ((((hp.push (itObj k1 l1)).push (itObj k2 l2)).push { cls := .type "tuple", data := .seq #[.ref hp.objs.size, .ref (hp.push (itObj k1 l1)).objs.size] }).push { cls := .type "tuple", data := .seq #[.none, .none] }) (o := { cls := .type "zip", data := .fields #[.none, .bool false, .bool true, .ref ((hp.push (itObj k1 l1)).push (itObj k2 l2)).objs.size, .ref (((hp.push (itObj k1 l1)).push (itObj k2 l2)).push { cls := .type "tuple", data := .seq #[.ref hp.objs.size, .ref (hp.push (itObj k1 l1)).objs.size] }).objs.size] }) rfl
      rw [z4] at g5
      rw [← z2, ← z3]
      exact g5
    · refine Heap.get?_push_of_some _ (Heap.get?_push_of_some _ ?_)
      have g3 := Heap.get?_push_size ((hp.push (itObj k1 l1)).push (itObj k2 l2)) (o := { cls := .type "tuple", data := .seq #[.ref hp.objs.size, .ref (hp.push (itObj k1 l1)).objs.size] }) rfl
      rw [z2] at g3
      rw [← z1]
      exact g3
    · refine Heap.get?_push_of_some _ ?_
      have g4 := Heap.get?_push_size (((hp.push (itObj k1 l1)).push (itObj k2 l2)).push { cls := .type "tuple", data := .seq #[.ref hp.objs.size, .ref (hp.push (itObj k1 l1)).objs.size] }) (o := { cls := .type "tuple", data := .seq #[.none, .none] }) rfl
      rw [z3] at g4
      exact g4
    · have g1 : (hp.push (itObj k1 l1)).get? hp.objs.size = some (itObj k1 l1) := Heap.get?_push_size _ (by cases k1 <;> rfl)
      have up := Heap.get?_push_of_some { cls := .type "zip", data := .fields #[.none, .bool false, .bool true, .ref ((hp.push (itObj k1 l1)).push (itObj k2 l2)).objs.size, .ref (((hp.push (itObj k1 l1)).push (itObj k2 l2)).push { cls := .type "tuple", data := .seq #[.ref hp.objs.size, .ref (hp.push (itObj k1 l1)).objs.size] }).objs.size] } (Heap.get?_push_of_some { cls := .type "tuple", data := .seq #[.none, .none] } (Heap.get?_push_of_some { cls := .type "tuple", data := .seq #[.ref hp.objs.size, .ref (hp.push (itObj k1 l1)).objs.size] } (Heap.get?_push_of_some (itObj k2 l2) g1)))
      cases k1 <;> exact ⟨_, up, rfl, rfl⟩
    · have g2 : ((hp.push (itObj k1 l1)).push (itObj k2 l2)).get? (hp.push (itObj k1 l1)).objs.size = some (itObj k2 l2) := Heap.get?_push_size _ (by cases k2 <;> rfl)
      rw [z1] at g2
      have up := Heap.get?_push_of_some { cls := .type "zip", data := .fields #[.none, .bool false, .bool true, .ref ((hp.push (itObj k1 l1)).push (itObj k2 l2)).objs.size, .ref (((hp.push (itObj k1 l1)).push (itObj k2 l2)).push { cls := .type "tuple", data := .seq #[.ref hp.objs.size, .ref (hp.push (itObj k1 l1)).objs.size] }).objs.size] } (Heap.get?_push_of_some { cls := .type "tuple", data := .seq #[.none, .none] } (Heap.get?_push_of_some { cls := .type "tuple", data := .seq #[.ref hp.objs.size, .ref (hp.push (itObj k1 l1)).objs.size] } g2))
      cases k2 <;> exact ⟨_, up, rfl, rfl⟩
    · exact fun c o x => Heap.get?_push_of_some _ (Heap.get?_push_of_some _ (Heap.get?_push_of_some _ (Heap.get?_push_of_some _ (Heap.get?_push_of_some _ x))))
theorem callType_S {a b : Value} {S : Spec} {Q : Value → Shared → Prop} (g : Meets (Builtin.«zip.__new__» ⟨[.type "zip", a, b], kwS⟩) S)
    (h : S A.in1 (wants (fun obj s₁ => s₁.TypeIs obj "zip" ∧ Q obj s₁) E) s) : wpAny (model prog w) A (call (.type "zip") [a, b] kwS) Q E s := by
  have ft := F.called_zip
  obtain ⟨c, tl, hmro⟩ := ft.mro
  have hmade := ft.made
  have hsub := ft.sub
  refine wpAny_call (codeAny_of_tree ?_)
  show wpAny _ _ (callAny (.type "zip") _) _ _ _
  refine wpAny_pure ⟨Code.quiet_builtin _ (by decide +kernel), codeAny_builtin F.entry_type_call ?_⟩
  rw [Around.under_plain (weight_kw "zip" [a, b] kwS) (units_kw "zip" [a, b] kwS)]
  have h1 := ft.notType
  have h2 := ft.canCreate
  have hct := typeCall_S a b
  have hcn := newCall_S a b
  repeat (any_goals (first | assumption | wp_step))
  refine codeAny_mono (codeAny_call_builtin ft.plain F.entry_zip_new (wpAny_of_eq hcn (g prog w A.in1 _ s h))) fun r s₁ hr => ?_
  cases r with
  | error e => exact hr
  | ok fl =>
    cases fl with
    | ret obj =>
      obtain ⟨hT, hq⟩ := hr
      have hli := ft.init.lookup
      have hbi := ft.init.bind obj
      have gi := init_meets_S (self := obj) (a := a) (b := b) ft.init.lookup ft.made (by decide)
      repeat (any_goals (first | assumption | wp_step))
      refine codeAny_mono (codeAny_call_builtin ft.init.plain F.entry_object_init (ft.init.check _ _ _ _ _ _ _ _ hT (args_init_S obj a b) (gi prog w A.in1 (wants (fun r s₂ => r = .none ∧ Q obj s₂) E) s₁ ⟨hT, rfl, hq⟩))) fun r₂ s₂ hr₂ => ?_
      cases r₂ with
      | error e => exact hr₂
      | ok fl₂ =>
        cases fl₂ with
        | ret r =>
          obtain ⟨rfl, hq⟩ := hr₂
          repeat (any_goals (first | assumption | wp_step))
        | _ => exact hr₂.elim
    | _ => exact hr.elim
theorem call_zipS {k1 k2 : Kd} {l1 l2 : Addr} {xs ys : Array Value} {Q : Value → Shared → Prop} (hl1 : SrcIs k1 s.heap l1 xs) (hl2 : SrcIs k2 s.heap l2 ys)
    (h : ∀ h', IsZipS h' (s.heap.objs.size + 4) (s.heap.objs.size + 2) (s.heap.objs.size + 3) .none → IsPair h' (s.heap.objs.size + 2) (.ref s.heap.objs.size) (.ref (s.heap.objs.size + 1)) →
      IsPair h' (s.heap.objs.size + 3) .none .none → ItAt k1 h' s.heap.objs.size l1 0 → ItAt k2 h' (s.heap.objs.size + 1) l2 0 → h'.objs.size = s.heap.objs.size + 5 →
      (∀ c o, s.heap.get? c = some o → h'.get? c = some o) → Q (.ref (s.heap.objs.size + 4)) { s with heap := h' }) :
    wpAny (model prog w) A (call (.type "zip") [.ref l1, .ref l2] kwS) Q E s :=
  callType_S (meets_zipS_new k1 k2 l1 l2 xs ys) ⟨hl1, hl2, fun h' hz a b c d e f => ⟨⟨_, hz, rfl⟩, h h' hz a b c d e f⟩⟩
end
end PfZ

namespace PfZ
open PySem PySem.Spec PyProof.Rows L2
def SqK : Kd → PySem.W.Frag → Hp → Addr → List V → Prop
  | .l, K, H, a, xs => SqL K H a xs
  | .t, K, H, a, xs => SqT K H a xs
theorem sqk_at {X : Cx} {pins : List (Addr × Obj)} {σ : L2.St} {H : Hp} {s : Shared} {k : Kd} {a : Addr} {xs : List V} (I : Inv X pins σ H s) (h : SqK k X.K H a xs) : ∃ its, Vals xs its ∧ SrcIs k s.heap a its.toArray := by
  cases k
  · obtain ⟨its, rv, p, _⟩ := I.list h
    exact ⟨its, rv, p.isList⟩
  · obtain ⟨its, rv, p, _⟩ := I.tuple h
    exact ⟨its, rv, (show s.heap.IsTuple a its.toArray from p)⟩
theorem sqk_inj {X : Cx} {pins : List (Addr × Obj)} {σ : L2.St} {H : Hp} {s : Shared} {k : Kd} {a : Addr} {xs ys : List V} (I : Inv X pins σ H s) (h : SqK k X.K H a xs) (h' : SqK k X.K H a ys) : xs = ys := by
  cases k
  · exact I.list_inj h h'
  · exact I.tuple_inj h h'
/-- the two as they stand at each turn, the items in new pairs; both end at once -/
def ItzS (K : PySem.W.Frag) (k1 k2 : Kd) (a b : Addr) : It :=
  ⟨fun i H => ∃ (xs ys : List V) (x y : V), SqK k1 K H a xs ∧ SqK k2 K H b ys ∧ xs[i]? = some x ∧ ys[i]? = some y,
    fun i H v H' => ∃ T x y, v = .ref T ∧ H T = none ∧ H' = upd H T (.tup [x, y]) ∧ (∀ xs, SqK k1 K H a xs → xs[i]? = some x) ∧ ∀ ys, SqK k2 K H b ys → ys[i]? = some y,
    fun i H => ∃ xs ys : List V, SqK k1 K H a xs ∧ SqK k2 K H b ys ∧ xs.length ≤ i ∧ ys.length ≤ i⟩
theorem turn_zipS {P : Program} {w : World} {K : PySem.W.Frag} {elts : List Expr} {kk : Nat} {tpos : Pos} {k1 k2 : Kd} {a b z TI TO i1 i2 : Addr} (D : ZipApart z TI TO i1 i2 a b) :
    Turn P w K (.Tuple elts kk tpos) (ItzS K k1 k2 a b) [z, TI, TO, i1, i2] z (fun i h => IsZipS h z TI TO .none ∧ IsPair h TI (.ref i1) (.ref i2) ∧ (∃ x y, IsPair h TO x y) ∧ ItAt k1 h i1 a i ∧ ItAt k2 h i2 b i) where
  mem := by simp
  obj := fun i h st c hc => by
    obtain ⟨hz, hTI, ⟨x, y, hTO⟩, h1, h2⟩ := st
    obtain ⟨o1, e1, d1⟩ := h1.obj
    obtain ⟨o2, e2, d2⟩ := h2.obj
    have e' : c = z ∨ c = TI ∨ c = TO ∨ c = i1 ∨ c = i2 := by simpa using hc
    rcases e' with q | q | q | q | q
    · rw [q]; exact ⟨_, hz, fun v q => nomatch q⟩
    · rw [q]; exact ⟨_, hTI, fun v q => nomatch q⟩
    · rw [q]; exact ⟨_, hTO, fun v q => nomatch q⟩
    · rw [q]; exact ⟨o1, e1, fun v q => by rw [d1] at q; cases q⟩
    · rw [q]; exact ⟨o2, e2, fun v q => by rw [d2] at q; cases q⟩
  keep := fun i h h' st k => by
    obtain ⟨hz, hTI, ⟨x, y, hTO⟩, h1, h2⟩ := st
    exact ⟨k z (by simp) _ hz, k TI (by simp) _ hTI, ⟨x, y, k TO (by simp) _ hTO⟩, h1.at fun o q => k i1 (by simp) o q, h2.at fun o q => k i2 (by simp) o q⟩
  item := by
    intro X hP hw hK hc i pins s σ H E I hf st hg
    subst hP hw hK
    obtain ⟨hz, hTI, ⟨x0, y0, hTO⟩, h1, h2⟩ := st
    obtain ⟨xs, ys, x, y, hqx, hqy, hx, hy⟩ := hg
    obtain ⟨its, rv, p⟩ := sqk_at I hqx
    obtain ⟨its2, rv2, p2⟩ := sqk_at I hqy
    obtain ⟨u, hu, ru⟩ := rv.get hx
    obtain ⟨u2, hu2, ru2⟩ := rv2.get hy
    have hzl : z < s.heap.objs.size := Heap.lt_size hz
    refine pyNext_zipS_item D hz hTI hTO h1 h2 p p2 (x := u) (y := u2) (by simpa using hu) (by simpa using hu2) fun h' z' TO' h1' h2' hT hsz hk => ?_
    refine ⟨_, rfl, letGo_zipS (s := { s with heap := h' }) z' fun h'' z'' sb => ?_⟩
    have hT2 : h''.get? s.heap.objs.size = some { cls := .type "tuple", data := .seq #[u, u2] } := (sb.2 _ (Nat.ne_of_gt hzl)).trans hT
    have new : ObjOk X.prog X.w (upd H s.heap.objs.size (.tup [x, y])) h'' s.heap.objs.size (.tup [x, y]) :=
      ⟨by show 2 ≤ sizeLine; decide, [u, u2], .cons ru (.cons ru2 .nil), ⟨_, hT2, rfl, _, rfl⟩⟩
    have I1 : Inv X pins σ (upd H s.heap.objs.size (.tup [x, y])) { s with heap := h'' } :=
      I.turnedNew (t' := s.toks) (ch := [z, TI, TO, i1, i2]) (fun c o hb q => (sb.2 c (fun q' => hb (by simp [q']))).trans (hk c o (fun q' => hb (by simp [q'])) (fun q' => hb (by simp [q'])) (fun q' => hb (by simp [q'])) (fun q' => hb (by simp [q'])) q)) hf (Nat.le_refl _) new
    refine ⟨.ref s.heap.objs.size, _, I1, rfl, ⟨_, x, y, rfl, I.hok.fresh (Nat.le_refl _), rfl, fun l hl => by rw [sqk_inj I hl hqx]; exact hx, fun l hl => by rw [sqk_inj I hl hqy]; exact hy⟩, ⟨z'', ?_, ⟨u, u2, ?_⟩, ?_, ?_⟩, fun c hcm => ?_⟩
    · exact (sb.2 _ D.TIz).trans (hk _ _ D.TIz D.TITO D.TIi1 D.TIi2 hTI)
    · exact (sb.2 _ D.TOz).trans TO'
    · exact h1'.at fun o q => (sb.2 _ D.i1z).trans q
    · exact h2'.at fun o q => (sb.2 _ D.i2z).trans q
    · have hlt : c < s.heap.objs.size := by
        have e' : c = z ∨ c = TI ∨ c = TO ∨ c = i1 ∨ c = i2 := by simpa using hcm
        rcases e' with q | q | q | q | q
        · rw [q]; exact hzl
        · rw [q]; exact Heap.lt_size hTI
        · rw [q]; exact Heap.lt_size hTO
        · rw [q]; obtain ⟨_, e1, _⟩ := h1.obj; exact Heap.lt_size e1
        · rw [q]; obtain ⟨_, e2, _⟩ := h2.obj; exact Heap.lt_size e2
      rw [upd_ne (Nat.ne_of_lt hlt)]
      exact (hf c hcm).1
  done := by
    intro X hP hw hK hc i pins s σ H E I hf st hg
    subst hP hw hK
    obtain ⟨hz, hTI, ⟨x0, y0, hTO⟩, h1, h2⟩ := st
    obtain ⟨xs, ys, hqx, hqy, q1, q2⟩ := hg
    obtain ⟨its, rv, p⟩ := sqk_at I hqx
    obtain ⟨its2, rv2, p2⟩ := sqk_at I hqy
    have l1 := rv.length
    have l2 := rv2.length
    exact pyNext_zipS_end (I.ok.hd hc) D hz hTI hTO h1 h2 p p2 (by simp; omega) (by simp; omega) fun h' hk => ⟨rfl, I.turnedL (t' := s.toks) (ch := [z, TI, TO, i1, i2]) (fun c o hb q =>
      hk c o (fun q' => hb (by simp [q'])) (fun q' => hb (by simp [q'])) (fun q' => hb (by simp [q'])) (fun q' => hb (by simp [q'])) q) hf⟩
  self := fun A i s Q E st h => pyIter_zipS st.1 h
theorem callWith_typeKw {M : Model} {A : Around} {E : Value → Shared → Prop} {s : Shared} {env : Env} {pos : Pos} {T : String} {e : Expr} {rest : List Expr} {kws : List Keyword} {Q : Value → Shared → Prop}
    (h : wpAny M A (spliced (backTo pos (starEach (e :: rest) env))) (fun vs s₁ => wpAny M A (evalAll ((backToKw pos (keywordEach kws env)).map (·.2)))
      (fun kvs s₂ => wpAny M A (call (.type T) vs (((backToKw pos (keywordEach kws env)).filterMap (·.1)).zip kvs)) Q E s₂) E s₁) E s)
    (he : backTo pos (starEach (e :: rest) env) = (false, eval e env) :: backTo pos (starEach rest env))
    (hplain : (backTo pos (starEach (e :: rest) env)).any (·.1) = false)
    (hall : (backToKw pos (keywordEach kws env)).all (·.1.isSome) = true)
    (hkw : (backToKw pos (keywordEach kws env)).any (·.1.isNone) = false) :
    wpAny M A (callWith pos (.type T) [] (backTo pos (starEach (e :: rest) env)) (backToKw pos (keywordEach kws env))) Q E s := by
  unfold callWith
  rw [he] at h hplain ⊢
  refine wpAny_bind (wpAny_holding (wpAny_mono (evalArgs_kwB (Q := fun a s₂ => wpAny M A (call (.type T) ([] ++ a.pos) a.kw) Q E s₂) hall h) (fun a s₁ h₁ => wpAny_bind (wpAny_standAt ?_)) fun _ _ x => x))
  simp only [hplain, hkw, Bool.or_false]
  refine wpAny_bind (wpAny_pure ?_)
  exact wpAny_bind (wpAny_mono h₁ (fun r s₂ hr => wpAny_bind (wpAny_holding (wpAny_point (wpAny_pure hr)))) fun _ _ x => x)
def iZipS (K : PySem.W.Frag) (ta : TA) : TI := fun σ H R => ta σ H fun vs H1 => ∃ k1 k2 a b xs ys, vs = [.ref a, .ref b] ∧ SqK k1 K H1 a xs ∧ SqK k2 K H1 b ys ∧ R (ItzS K k1 k2 a b) H1
theorem pi_zipS {X : Cx} {e e2 : Expr} {ta : TA} {p pos tpos kp p3 : Pos} {elts : List Expr} {kk j : Nat} (hg : Gl X "zip") (hm : X.mg "zip" = none) (ha : PA X [e, e2] ta)
    (hs : starEach [e, e2] X.env = (false, eval e X.env) :: starEach [e2] X.env) (hpl : (backTo pos (starEach [e, e2] X.env)).any (·.1) = false) (hb : backTo pos (starEach [e, e2] X.env) = (false, eval e X.env) :: backTo pos (starEach [e2] X.env)) :
    PI X (.Tuple elts kk tpos) (.Call (.Name "zip" p) [e, e2] [⟨some "strict", .Constant (.bool true) j p3, kp⟩] pos) (iZipS X.K ta) := by
  refine ⟨fun pins s σ H R I h => ?_⟩
  refine wpAny_Call_Name_kw (ld_blt I hg hm PyProof.Rows.boot_zip ?_)
  refine callWith_typeKw (thn (ha.run pos pins s σ H _ I h) fun us s1 ⟨vs, H1, I1, r1, q1⟩ => ?_) hb hpl rfl rfl
  refine kws_cons (thn (L2.pe_bl.run pins s1 σ H1 _ I1 (show L2.tC (.bl true) σ H1 fun v H2 => v = .bl true ∧ H2 = H1 from ⟨rfl, rfl⟩)) fun v s2 ⟨x, H2, I2, r2, e2, e3⟩ => kws_nil ?_)
  subst e2 e3
  cases r2
  obtain ⟨k1, k2, a, b, xs, ys, ex, hqx, hqy, q⟩ := q1
  subst ex
  cases r1 with
  | cons r rr =>
    cases rr with
    | cons r' rr =>
      cases rr
      cases r
      cases r'
      obtain ⟨its, rv, p1⟩ := sqk_at I2 hqx
      obtain ⟨its2, rv2, p2⟩ := sqk_at I2 hqy
      have la : a < s2.heap.objs.size := p1.lt
      have lb : b < s2.heap.objs.size := p2.lt
      refine call_zipS p1 p2 fun h' hz hTI hTO h1 h2 hsz hk => pyIter_zipS hz ?_
      have I3 : Inv X pins σ H2 { s2 with heap := h' } := I2.kept (t' := s2.toks) hk
      refine ⟨s2.heap.objs.size + 4, [s2.heap.objs.size + 4, s2.heap.objs.size + 2, s2.heap.objs.size + 3, s2.heap.objs.size, s2.heap.objs.size + 1], _, _, H2, rfl, I3, turn_zipS (PySem.W.ktu_apart s2.heap.objs.size a b la lb), ⟨hz, hTI, ⟨_, _, hTO⟩, h1, h2⟩, fun c hcm => ?_, q⟩
      have e' : c = s2.heap.objs.size + 4 ∨ c = s2.heap.objs.size + 2 ∨ c = s2.heap.objs.size + 3 ∨ c = s2.heap.objs.size ∨ c = s2.heap.objs.size + 1 := by simpa using hcm
      have hle : s2.heap.objs.size ≤ c := by
        rcases e' with z | z | z | z | z
        · rw [z]; exact Nat.le_add_right _ _
        · rw [z]; exact Nat.le_add_right _ _
        · rw [z]; exact Nat.le_add_right _ _
        · rw [z]; exact Nat.le_refl _
        · rw [z]; exact Nat.le_add_right _ _
      exact I2.fpOk hle (I2.hok.fresh hle)
end PfZ

set_option maxRecDepth 100000
/-! Pf0e: enumerate(t), t a tuple. -/
namespace PfE
open PySem PySem.Spec PyProof.Rows L2
set_option maxHeartbeats 1000000 in
theorem meets_new1 {v : Value} {o : Obj} {H : Heap → Prop} (B : Begins v o H) :
    Meets (Builtin.«enumerate.__new__» ⟨[.type "enumerate", v], []⟩) (fun _ R s => H s.heap ∧
      R (.ok (.ret (.ref (s.heap.push o).objs.size))) { s with heap := (s.heap.push o).push { cls := .type "enumerate", data := .fields #[.none, .bool false, .ref s.heap.objs.size, rawInt 0, .none, .none] } }) :=
  .of_wp fun prog w A R s h => by
    obtain ⟨hp, g, d, tk, os⟩ := s; obtain ⟨h1, h⟩ := h
    have hsub := sub_enumerate
    have q1 : ∀ {A' : Around} {E : Value → Shared → Prop} {Q : Value → Shared → Prop}, Q (.ref hp.objs.size) ⟨hp.push o, g, d, tk, os⟩ → wpAny (model prog w) A' (pyIter v) Q E ⟨hp, g, d, tk, os⟩ :=
      fun q => B.iter prog w _ _ ⟨hp, g, d, tk, os⟩ _ h1 q
    wp_walk using q1
    refine wpAny_stack_any fun st => wpAny_pure ?_
    split
    · rename_i c _ _ _ _ _
      cases (c == Value.type "enumerate")
      · wp_walk using q1
        exact ⟨_, rfl, h⟩
      · wp_walk using q1
        exact ⟨_, rfl, h⟩
    · wp_walk using q1
      exact ⟨_, rfl, h⟩
section
variable {prog : Program} {w : World} {A : Around} {E : Value → Shared → Prop} {s : Shared}
theorem enum_begins1 {v : Value} {o : Obj} {H : Heap → Prop} {Q : Value → Shared → Prop} (B : Begins v o H) (h1 : H s.heap)
    (h : ∀ h', IsEnum h' (s.heap.objs.size + 1) s.heap.objs.size 0 .none → h'.get? s.heap.objs.size = some o → h'.objs.size = s.heap.objs.size + 2 →
      (∀ b o, s.heap.get? b = some o → h'.get? b = some o) → Q (.ref (s.heap.objs.size + 1)) { s with heap := h' }) :
    wpAny (model prog w) A (call (.type "enumerate") [v]) Q E s := by
  refine callType_new F.called_enumerate (by decide) (F.typeCall_enumerate_1 _) (F.newCall_enumerate_1 _) (fun obj => F.args_object_init_2 obj _) F.entry_enumerate_new
    (meets_new1 B) ⟨h1, ?_⟩
  have hz : (s.heap.push o).objs.size = s.heap.objs.size + 1 := Heap.size_push ..
  show _ ∧ _
  rw [hz]
  have he : IsEnum ((s.heap.push o).push { cls := .type "enumerate", data := .fields #[.none, .bool false, .ref s.heap.objs.size, rawInt 0, .none, .none] }) (s.heap.objs.size + 1) s.heap.objs.size 0 .none := by
    have := Heap.get?_push_size (s.heap.push o) (o := { cls := .type "enumerate", data := .fields #[.none, .bool false, .ref s.heap.objs.size, rawInt 0, .none, .none] }) rfl
    rw [hz] at this; exact this
  refine ⟨⟨_, he, rfl⟩, h _ he (Heap.get?_push_of_some _ (Heap.get?_push_size _ B.free)) (by rw [Heap.size_push, hz]) fun b o x => Heap.get?_push_of_some _ (Heap.get?_push_of_some _ x)⟩
end
section
variable {prog : Program} {w : World} {A : Around} {E : Value → Shared → Prop} {s : Shared}
theorem enum_endT {e it l : Addr} {i : Nat} {items : Array Value} {old : Value} {Q : Option Value → Shared → Prop} (hh : A.handled = none)
    (he : IsEnum s.heap e it i old) (hit : s.heap.IsTupleIter it l i) (hl : s.heap.IsTuple l items) (hx : items[i]? = none)
    (hQ : ∀ h', Heap.ExtBut it s.heap h' → Q none { s with heap := h' }) : wpAny (model prog w) A (pyNext (.ref e)) Q E s := by
  have hT : s.TypeIs (.ref e) "enumerate" := ⟨_, he, rfl⟩
  unfold pyNext
  refine wpAny_bind (wpAny_attempt (wpAny_callSpecial?_slot (name := Str.ofString "__next__") hT F.slot_enumerate_next
    (wpAny_call_entry F.slot_enumerate_next hT F.entry_enumerate_next ?_ (F.args_enumerate_next_1 _))))
  show wpAny _ _ (field (.ref e) 2 >>= _) _ _ _
  refine wpAny_bind (wpAny_field he rfl (x := .ref it) rfl ?_)
  refine wpAny_bind (wpAny_nextOf_tuple_end hh hit hl hx fun h' x he' hx' => ?_)
  obtain ⟨o, ho, hc⟩ := hx'
  refine wpAny_bind (wpAny_isInstance (T := "StopIteration") (b := true) ⟨o, ho, hc⟩ isSubtype_stop ?_)
  exact wpAny_pure (hQ _ he')
end
/-- the tuple at a, each item in a new pair -/
def IteT (K : PySem.W.Frag) (a : Addr) : It :=
  ⟨fun i H => ∃ (xs : List V) (x : V), SqT K H a xs ∧ xs[i]? = some x, fun i H v H' => ∃ T x, v = .ref T ∧ H T = none ∧ H' = upd H T (.tup [.int (i : Nat), x]) ∧ ∀ xs, SqT K H a xs → xs[i]? = some x, fun i H => ∃ xs : List V, SqT K H a xs ∧ xs.length ≤ i⟩
theorem turn_enumT {P : Program} {w : World} {K : PySem.W.Frag} {elts : List Expr} {kk : Nat} {tpos : Pos} (a e it : Addr) :
    Turn P w K (.Tuple elts kk tpos) (IteT K a) [e, it] e (fun i h => (∃ old, IsEnum h e it ((i : Nat) : Int) old) ∧ h.IsTupleIter it a i ∧ e ≠ it) where
  mem := by simp
  obj := fun i h st b hb => by
    obtain ⟨⟨old, he⟩, ⟨o, ho, hc, hd⟩, _⟩ := st
    have e' : b = e ∨ b = it := by simpa using hb
    rcases e' with z | z
    · rw [z]; exact ⟨_, he, fun v q => nomatch q⟩
    · rw [z]; exact ⟨o, ho, fun v q => by rw [hd] at q; cases q⟩
  keep := fun i h h' st k => let ⟨⟨old, he⟩, hi, hne⟩ := st; ⟨⟨old, k e (by simp) _ he⟩, hi.at fun o q => k it (by simp) o q, hne⟩
  item := by
    intro X hP hw hK hc i pins s σ H E I hf st hg
    subst hP hw hK
    obtain ⟨⟨old, he⟩, hit, hne⟩ := st
    obtain ⟨xs, x, hq, hx⟩ := hg
    obtain ⟨its, rv, p, hz⟩ := I.tuple hq
    obtain ⟨u, hu, ru⟩ := rv.get hx
    have hel : e < s.heap.objs.size := Heap.lt_size he
    have hil : it < s.heap.objs.size := by obtain ⟨_, q, _⟩ := hit; exact Heap.lt_size q
    have hlt : i < its.toArray.size := by
      rw [List.size_toArray, ← rv.length]
      exact (List.getElem?_eq_some_iff.mp hx).1
    have hai : a ≠ it := fun z => by
      obtain ⟨o1, h1, c1, _⟩ := id p
      obtain ⟨o2, h2, c2, _⟩ := id hit
      rw [z, h2] at h1
      cases h1
      rw [c1] at c2
      exact absurd c2 (by decide)
    have hae : a ≠ e := fun z => by
      obtain ⟨o1, h1, c1, _⟩ := id p
      have h2 : s.heap.get? e = _ := he
      rw [z, h2] at h1
      cases h1
      have c1 : Value.type "enumerate" = Value.type "tuple" := c1
      exact absurd c1 (by decide)
    have D := Draws.tuple (prog := X.prog) (w := X.w) (A := X.A.in1) (I.ok.hd hc) it a hai its.toArray
    refine wpAny_pyNext_enum_itemD D he ⟨hit, p⟩ hlt hne (by simp only [List.mem_cons, List.not_mem_nil, or_false, not_or]; exact ⟨hne, Ne.symm hae⟩) fun y h' tk hy ho hit' hT hsz hk => ?_
    have hyu : y = u := by
      have : its.toArray[i]? = some u := by simpa using hu
      rw [this] at hy
      exact (Option.some.inj hy).symm
    subst hyu
    refine ⟨_, rfl, wpAny_letOwnedTupleGo_enum (s := { s with heap := h', toks := tk + 1 }) ho fun h'' he' sb => ?_⟩
    have hT2 : h''.get? s.heap.objs.size = some { cls := .type "tuple", data := .seq #[.int i tk, y] } := (sb.2 _ (Nat.ne_of_gt hel)).trans hT
    have new : ObjOk X.prog X.w (upd H s.heap.objs.size (.tup [.int (i : Nat), x])) h'' s.heap.objs.size (.tup [.int (i : Nat), x]) :=
      ⟨by show 2 ≤ sizeLine; decide, [.int i tk, y], .cons ⟨_, rfl⟩ (.cons ru .nil), ⟨_, hT2, rfl, _, rfl⟩⟩
    have I1 : Inv X pins σ (upd H s.heap.objs.size (.tup [.int (i : Nat), x])) { s with heap := h'', toks := tk + 1 } :=
      I.turnedNew (ch := [e, it]) (fun b ob hb q => (sb.2 b (fun z => hb (by simp [z]))).trans (hk b ob (fun z => hb (by simp [z])) (fun z => hb (by simp [z])) q)) hf (Nat.le_refl _) new
    refine ⟨.ref s.heap.objs.size, _, I1, rfl, ⟨_, x, rfl, I.hok.fresh (Nat.le_refl _), rfl, fun ys hy => by rw [I.tuple_inj hy hq]; exact hx⟩, ⟨⟨y, ?_⟩, hit'.1.at fun o q => (sb.2 it (Ne.symm hne)).trans q, hne⟩, fun b hb => ?_⟩
    · have e1 : ((i + 1 : Nat) : Int) = (i : Int) + 1 := by omega
      rw [e1]; exact he'
    · have hb' : b < s.heap.objs.size := by
        have e' : b = e ∨ b = it := by simpa using hb
        rcases e' with z | z
        · rw [z]; exact hel
        · rw [z]; exact hil
      rw [upd_ne (Nat.ne_of_lt hb')]
      exact (hf b hb).1
  done := by
    intro X hP hw hK hc i pins s σ H E I hf st hg
    subst hP hw hK
    obtain ⟨⟨old, he⟩, hit, hne⟩ := st
    obtain ⟨xs, hq, hx⟩ := hg
    obtain ⟨its, rv, p, hz⟩ := I.tuple hq
    obtain ⟨f0, f1, f2, f3, f4, f5⟩ := hf it (by simp)
    have hl := rv.length
    exact enum_endT (I.ok.hd hc) he hit p (by simp; omega) fun h' eb => ⟨rfl, I.turned (t' := s.toks) (fun b o hb q => eb b o hb q) f0 f1 f3 f4 f5⟩
  self := fun A i s Q E st h => let ⟨⟨_, he⟩, _⟩ := st; wpAny_pyIter_enum he h
def iEnumA (K : PySem.W.Frag) (ta : TA) : TI := fun σ H R => ta σ H fun vs H1 => (∃ a xs, vs = [.ref a] ∧ SqL K H1 a xs ∧ R (Ite K a) H1) ∨ ∃ a xs, vs = [.ref a] ∧ SqT K H1 a xs ∧ R (IteT K a) H1
theorem pi_enumA {X : Cx} {e : Expr} {ta : TA} {p pos tpos : Pos} {elts : List Expr} {kk : Nat} (hg : Gl X "enumerate") (hm : X.mg "enumerate" = none) (ha : PA X [e] ta) (hs : starEach [e] X.env = [(false, eval e X.env)] := by rfl) :
    PI X (.Tuple elts kk tpos) (.Call (.Name "enumerate" p) [e] [] pos) (iEnumA X.K ta) := by
  refine ⟨fun pins s σ H R I h => ?_⟩
  refine Call_ (ld_blt I hg hm boot_enumerate (PyProof.Rows.callWith_type1 (thn (ha.run pos pins s σ H _ I h) fun us s1 ⟨vs, H1, I1, r1, q1⟩ => ?_) hs rfl))
  have fp : ∀ b ∈ [s1.heap.objs.size + 1, s1.heap.objs.size], FpOk X pins H1 b := fun b hb => by
    have e' : b = s1.heap.objs.size + 1 ∨ b = s1.heap.objs.size := by simpa using hb
    have hle : s1.heap.objs.size ≤ b := by
      rcases e' with z | z
      · rw [z]; exact Nat.le_add_right _ _
      · rw [z]; exact Nat.le_refl _
    exact I1.fpOk hle (I1.hok.fresh hle)
  rcases q1 with ⟨a, xs, ex, hq, q⟩ | ⟨a, xs, ex, hq, q⟩
  · subst ex
    cases r1 with
    | cons r rr =>
      cases rr
      cases r
      obtain ⟨its, rv, p', hz⟩ := I1.list hq
      refine call_enumerate_list p'.isList fun h' he hit hsz hk => wpAny_pyIter_enum he ?_
      have I2 : Inv X pins σ H1 { s1 with heap := h' } := I1.kept (t' := s1.toks) hk
      exact ⟨s1.heap.objs.size + 1, [s1.heap.objs.size + 1, s1.heap.objs.size], _, _, H1, rfl, I2, turn_enum a (s1.heap.objs.size + 1) s1.heap.objs.size, ⟨⟨.none, he⟩, hit, Nat.succ_ne_self _⟩, fp, q⟩
  · subst ex
    cases r1 with
    | cons r rr =>
      cases rr
      cases r
      obtain ⟨its, rv, p', hz⟩ := I1.tuple hq
      refine enum_begins1 (begins_tuple a its.toArray) p' fun h' he hit hsz hk => wpAny_pyIter_enum he ?_
      have I2 : Inv X pins σ H1 { s1 with heap := h' } := I1.kept (t' := s1.toks) hk
      exact ⟨s1.heap.objs.size + 1, [s1.heap.objs.size + 1, s1.heap.objs.size], _, _, H1, rfl, I2, turn_enumT a (s1.heap.objs.size + 1) s1.heap.objs.size, ⟨⟨.none, he⟩, ⟨_, hit, rfl, rfl⟩, Nat.succ_ne_self _⟩, fp, q⟩
end PfE

/-! Pf1: the core language and what it says (values are data; lists that a def makes are owned by a slot). -/
namespace Pf
open PySem

abbrev D := PyData
/-- the token of the law's source of draws -/
def srcD : D := .dict [(.none, .none)]

/-- what a slot holds: nothing known, frozen data, a list of its own -/
inductive Sl where
  | un | dat (d : D) | lst (xs : List D) | src | dct (T : Bool) (kvs : List (D × D))
/-- an expression's result: frozen data, the list that a slot owns, a new list, the source -/
inductive Rv where
  | dat (d : D) | view (i : Nat) | lst (xs : List D) | src | dct (T : Bool) (kvs : List (D × D))
structure Src where
  cells : List Int
  left : Int
  mixed : Int
  turn : Int
/-- the source's ints -/
inductive Sf where
  | left | mixed | turn
  deriving DecidableEq
def Src.fld (s : Src) : Sf → Int
  | .left => s.left
  | .mixed => s.mixed
  | .turn => s.turn
def Src.setf (s : Src) (n : Int) : Sf → Src
  | .left => ⟨s.cells, n, s.mixed, s.turn⟩
  | .mixed => ⟨s.cells, s.left, n, s.turn⟩
  | .turn => ⟨s.cells, s.left, s.mixed, n⟩
structure St where
  env : List Sl
  src : Option Src
def St.get (s : St) (i : Nat) : Sl := s.env.getD i .un
def St.put (s : St) (i : Nat) (x : Sl) : St := ⟨s.env.set i x, s.src⟩

def isLst : Sl → Bool
  | .lst _ => true
  | _ => false
inductive Op2 where
  | add | sub | mul | fdiv | mod | shl | eq | ne | lt | le | gt | ge | isin | notin | is_ | isnt
  deriving DecidableEq
inductive Bi where
  | len | abs | int | sum | min1 | max1 | min2 | max2 | sorted | list | tuple | all | repr | isTup | isInt | isBool | isStr | dict (T : Bool)
  deriving DecidableEq
/-- slices: [lo:hi], [::-1] -/
inductive Sk where
  | cut | rev
  deriving DecidableEq

inductive Tg where
  | name (i : Nat) | tup (ts : List Tg)

mutual
inductive Ex where
  | nop
  | var (i : Nat)
  | cst (d : D)
  | tup (es : Exs)
  | lst (es : Exs)
  | op2 (o : Op2) (a b : Ex)
  | neg (a : Ex)
  | not (a : Ex)
  | chain (o1 o2 : Op2) (a b c : Ex)
  | and2 (a b : Ex)
  | or2 (a b : Ex)
  | ite (c a b : Ex)
  | idx (a i : Ex)
  | slc (k : Sk) (a lo hi : Ex)
  | call (f : Nat) (es : Exs)
  | callS (f : Nat) (es : Exs)
  | bi (b : Bi) (es : Exs)
  | comp (own : List Nat) (tg : Tg) (it : Itx) (c e : Ex)
  | pop (i : Nat) (a : Ex)
  | index (a b : Ex)
  | dnew (T : Bool)
  | ddisp (k v : Ex)
  | get2 (a k d : Ex)
  | rngL (tup : Bool) (a b : Ex)
  | sget (i : Nat) (f : Sf)
  | slen (i : Nat)
  | spop (i : Nat)
inductive Exs where
  | nil | cons (e : Ex) (es : Exs) | star (e : Ex) (es : Exs)
inductive Itx where
  | seq (e : Ex) | rng1 (e : Ex) | rng2 (a b : Ex) | enm (e : Ex) | zip (strict : Bool) (a b : Ex) | dk (i : Nat) | di (i : Nat)
end

/-- a store's place: a name, a place of a slot's list -/
inductive Tgx where
  | nm (i : Nat) | ix (i : Nat) (k : Ex)
mutual
inductive Sm where
  | set (i : Nat) (e : Ex)
  | asgN (is : List Nat) (es : Exs)
  | asgX (ts : List Tgx) (es : Exs)
  | asgT (tg : Tg) (e : Ex)
  | app (i : Nat) (e : Ex)
  | ext (i : Nat) (e : Ex)
  | setI (i : Nat) (k e : Ex)
  | augN (i : Nat) (o : Op2) (e : Ex)
  | augI (i : Nat) (k : Ex) (o : Op2) (e : Ex)
  | ite (c : Ex) (t e : Sms)
  | for (tmp : List Nat) (tg : Tg) (it : Itx) (body : Sms)
  | whl (fuel : Nat) (tmp : List Nat) (c : Ex) (body : Sms)
  | ret (e : Ex)
  | expr (e : Ex)
  | brk | cnt | pass
  | sset (i : Nat) (f : Sf) (e : Ex)
inductive Sms where
  | nil | cons (s : Sm) (ss : Sms)
end

/-! ### dicts -/
/-- a dict as data: T says that its keys are tuples -/
def dctD (T : Bool) (kvs : List (D × D)) : D := .dict ((.bool T, .none) :: kvs)
def leafK : D → Bool
  | .int _ => true
  | .str _ => true
  | _ => false
/-- what may be a key -/
def keyOk : Bool → D → Bool
  | false, d => leafK d
  | true, .tuple ds => ds.all leafK
  | true, _ => false
def dfind (kvs : List (D × D)) (k : D) : Option D := (kvs.find? fun p => PyData.eqv p.1 k).map (·.2)
def dput (kvs : List (D × D)) (k v : D) : List (D × D) := if kvs.any fun p => PyData.eqv p.1 k then kvs.map fun p => if PyData.eqv p.1 k then (p.1, v) else p else kvs ++ [(k, v)]
def dctOf : D → Option (Bool × List (D × D))
  | .dict ((.bool T, .none) :: kvs) => some (T, kvs)
  | _ => none
/-! ### data -/
/-- fits comparison: no dict, texts in order, nested at most k deep -/
def okD : Nat → D → Bool
  | _, .none => true
  | _, .bool _ => true
  | _, .int _ => true
  | _, .str x => PyData.strOk x
  | 0, .list _ => false
  | 0, .tuple _ => false
  | k + 1, .list xs => xs.all (okD k)
  | k + 1, .tuple xs => xs.all (okD k)
  | _, .dict _ => false

def smallI (i : Int) : Bool := decide (i.natAbs < 2 ^ 64)
def fitI (i : Int) : Bool := decide (i.natAbs < 2 ^ 62)
def evEq (a b : D) : Option Bool := match a, b with
  | .str x, .str y => some (x == y)
  | a, b => if okD 12 a && okD 12 b then some (PyData.eqv a b) else none
def evIn (a b : D) : Option Bool := match b with
  | .list ds => if okD 12 a && okD 12 b then some (ds.any fun z => PyData.eqv z a) else none
  | .tuple ds => if okD 12 a && okD 12 b then some (ds.any fun z => PyData.eqv z a) else none
  | .dict l => (dctOf (.dict l)).bind fun q => if keyOk q.1 a then some (q.2.any fun p => PyData.eqv p.1 a) else none
  | _ => none
def evIs (a b : D) : Option Bool := match a, b with
  | .bool x, .bool y => some (x == y)
  | .none, .none => some true
  | .bool _, .none => some false
  | .int _, .none => some false
  | .str _, .none => some false
  | .list _, .none => some false
  | .tuple _, .none => some false
  | _, _ => none
def bo (o : Option Bool) : Option Rv := o.map fun b => .dat (.bool b)
def evAdd : D → D → Option Rv
  | .int i, .int j => some (.dat (.int (i + j)))
  | .tuple xs, .tuple ys => if xs.length + ys.length ≤ sizeLine then some (.dat (.tuple (xs ++ ys))) else none
  | .list xs, .list ys => if xs.length + ys.length ≤ sizeLine then some (.lst (xs ++ ys)) else none
  | _, _ => none
def repOk (n : Nat) (k : Int) : Bool := decide (k.natAbs < 2 ^ 62) && decide (n * k.toNat ≤ sizeLine)
def repOkT (n : Nat) (k : Int) : Bool := decide (k.toNat ≤ 1000) && decide (k.natAbs < 2 ^ 62) && decide (n ≤ 1000)
def evMul : D → D → Option Rv
  | .int i, .int j => if smallI i || smallI j then some (.dat (.int (i * j))) else none
  | .list xs, .int k => if repOk xs.length k then some (.lst (List.replicate k.toNat xs).flatten) else none
  | .tuple xs, .int k => if repOkT xs.length k then some (.dat (.tuple (List.replicate k.toNat xs).flatten)) else none
  | _, _ => none
def evInt (c : Int → Int → Bool) (f : Int → Int → Int) : D → D → Option Rv
  | .int i, .int j => if c i j then some (.dat (.int (f i j))) else none
  | _, _ => none
def evCmp (f : Int → Int → Bool) : D → D → Option Rv
  | .int i, .int j => some (.dat (.bool (f i j)))
  | _, _ => none
def divOk (i j : Int) : Bool := decide (j ≠ 0) && decide (j.natAbs < 1073741824)
def shlOk (i j : Int) : Bool := decide (0 ≤ j) && decide (j.toNat ≤ 1000000) && smallI i
def evOp2 : Op2 → D → D → Option Rv
  | .add, a, b => evAdd a b
  | .sub, a, b => evInt (fun _ _ => true) (fun i j => i - j) a b
  | .mul, a, b => evMul a b
  | .fdiv, a, b => evInt divOk (fun i j => i.fdiv j) a b
  | .mod, a, b => evInt (fun _ j => decide (j ≠ 0)) (fun i j => i.fmod j) a b
  | .shl, a, b => evInt shlOk (fun i j => i * 2 ^ j.toNat) a b
  | .eq, a, b => bo (evEq a b)
  | .ne, a, b => bo ((evEq a b).map fun x => !x)
  | .lt, a, b => evCmp (fun i j => decide (i < j)) a b
  | .le, a, b => evCmp (fun i j => decide (i ≤ j)) a b
  | .gt, a, b => evCmp (fun i j => decide (j < i)) a b
  | .ge, a, b => evCmp (fun i j => decide (j ≤ i)) a b
  | .isin, a, b => bo (evIn a b)
  | .notin, a, b => bo ((evIn a b).map fun x => !x)
  | .is_, a, b => bo (evIs a b)
  | .isnt, a, b => bo ((evIs a b).map fun x => !x)
def evNeg : D → Option Rv
  | .int i => some (.dat (.int (-i)))
  | _ => none
def intsOf : List D → Option (List Int)
  | [] => some []
  | .int i :: r => (intsOf r).map fun l => i :: l
  | _ :: _ => none
def boolsOf : List D → Option (List Bool)
  | [] => some []
  | .bool i :: r => (boolsOf r).map fun l => i :: l
  | _ :: _ => none
def items : D → Option (List D)
  | .list xs => some xs
  | .tuple xs => some xs
  | _ => none
def listOf : D → Option (List D)
  | .list xs => some xs
  | _ => none
def evIdx : D → D → Option D
  | .list xs, .int i => L2.atI xs i
  | .tuple xs, .int i => L2.atI xs i
  | .dict l, k => (dctOf (.dict l)).bind fun q => if keyOk q.1 k then dfind q.2 k else none
  | _, _ => none
def cutD (xs : List D) (lo hi : Option Int) : List D := (xs.drop (HT.sIx xs.length 0 lo)).take (HT.sIx xs.length xs.length hi - HT.sIx xs.length 0 lo)
def evSlc : Sk → D → Option Int → Option Int → Option Rv
  | .cut, .list xs, lo, hi => some (.lst (cutD xs lo hi))
  | .cut, .tuple xs, lo, hi => some (.dat (.tuple (cutD xs lo hi)))
  | .rev, .list xs, _, _ => some (.lst xs.reverse)
  | .rev, .tuple xs, _, _ => some (.dat (.tuple xs.reverse))
  | _, _, _, _ => none
/-- repr fits -/
def reprOk (d : D) : Bool := okD 12 d && d.showable && d.leavesShort 13 && decide (d.bulk ≤ 2 ^ 20)
def minL : List Int → Int
  | [] => 0
  | [x] => x
  | x :: y :: r => min x (minL (y :: r))
def maxL : List Int → Int
  | [] => 0
  | [x] => x
  | x :: y :: r => max x (maxL (y :: r))
/-- what may be sorted: data of one shape, all tuples with an item, or none a tuple -/
def tup1 : D → Bool
  | .tuple (_ :: _) => true
  | _ => false
def notTup : D → Bool
  | .tuple _ => false
  | .none => false
  | _ => true
def isUnit : List D → Bool
  | [.tuple []] => true
  | _ => false
def sortOk (ds : List D) : Bool := ds.all (okD 12) && (ds.all fun a => ds.all fun b => W.alike a b) && (ds.all tup1 || ds.all notTup || isUnit ds)
def sortD (ds : List D) : List D := ds.mergeSort (W.dataLe false id)
/-- what zip yields: lists, or tuples -/
def zipOf (strict : Bool) (a b : D) : Option (List D) := if strict
  then (items a).bind fun xs => (items b).bind fun ys => if xs.length = ys.length then some ((xs.zip ys).map fun z => .tuple [z.1, z.2]) else none
  else match a, b with
    | .list xs, .list ys => some ((xs.zip ys).map fun z => .tuple [z.1, z.2])
    | .tuple xs, .tuple ys => some ((xs.zip ys).map fun z => .tuple [z.1, z.2])
    | _, _ => none
def ev1 (f : D → Option Rv) : List D → Option Rv
  | [d] => f d
  | _ => none
def ev2 (f : D → D → Option Rv) : List D → Option Rv
  | [d, e] => f d e
  | _ => none
def bLen : D → Option Rv
  | .list xs => some (.dat (.int xs.length))
  | .tuple xs => some (.dat (.int xs.length))
  | .dict l => (dctOf (.dict l)).map fun q => .dat (.int q.2.length)
  | _ => none
def bAbs : D → Option Rv
  | .int i => some (.dat (.int (if i < 0 then -i else i)))
  | _ => none
def bInt : D → Option Rv
  | .int i => some (.dat (.int i))
  | .bool b => some (.dat (.int (if b then 1 else 0)))
  | _ => none
def bSum (d : D) : Option Rv := (listOf d).bind fun ds => (intsOf ds).map fun l => .dat (.int l.sum)
def bMin (d : D) : Option Rv := (listOf d).bind fun ds => (intsOf ds).bind fun l => if l.isEmpty then none else some (.dat (.int (minL l)))
def bMax (d : D) : Option Rv := (listOf d).bind fun ds => (intsOf ds).bind fun l => if l.isEmpty then none else some (.dat (.int (maxL l)))
def bMin2 : D → D → Option Rv
  | .int i, .int j => some (.dat (.int (if j < i then j else i)))
  | _, _ => none
def bMax2 : D → D → Option Rv
  | .int i, .int j => some (.dat (.int (if j > i then j else i)))
  | _, _ => none
/-- what sorted(..) walks: a list, a dict's keys -/
def sortItems : D → Option (List D)
  | .list xs => some xs
  | .dict l => (dctOf (.dict l)).map fun q => q.2.map (·.1)
  | _ => none
def bSorted (d : D) : Option Rv := (sortItems d).bind fun ds => if sortOk ds then some (.lst (sortD ds)) else none
def bList (d : D) : Option Rv := (items d).map fun xs => .lst xs
def bTuple (d : D) : Option Rv := (items d).map fun xs => .dat (.tuple xs)
def bAll (d : D) : Option Rv := (listOf d).bind fun ds => (boolsOf ds).map fun l => .dat (.bool (l.all id))
def bRepr (d : D) : Option Rv := if reprOk d then some (.dat (.str d.shown)) else none
def tyName : D → Option String
  | .none => some "NoneType"
  | .bool _ => some "bool"
  | .int _ => some "int"
  | .str _ => some "str"
  | .list _ => some "list"
  | .tuple _ => some "tuple"
  | .dict _ => none
def bIs (T : String) (d : D) : Option Rv := (tyName d).map fun n => .dat (.bool (n == T || (n == "bool" && T == "int")))
/-- dict(pairs) -/
def pairsOf : List D → Option (List (D × D))
  | [] => some []
  | .tuple [k, v] :: r => (pairsOf r).map fun l => (k, v) :: l
  | _ :: _ => none
def bDict (T : Bool) : D → Option Rv
  | .list ds => (pairsOf ds).bind fun ps => if ps.all fun p => keyOk T p.1 then some (.dct T (ps.foldl (fun acc p => dput acc p.1 p.2) [])) else none
  | .dict l => (dctOf (.dict l)).bind fun q => if q.1 then none else some (.dct false q.2)
  | _ => none
def evBi : Bi → List D → Option Rv
  | .len, ds => ev1 bLen ds
  | .abs, ds => ev1 bAbs ds
  | .int, ds => ev1 bInt ds
  | .sum, ds => ev1 bSum ds
  | .min1, ds => ev1 bMin ds
  | .max1, ds => ev1 bMax ds
  | .min2, ds => ev2 bMin2 ds
  | .max2, ds => ev2 bMax2 ds
  | .sorted, ds => ev1 bSorted ds
  | .list, ds => ev1 bList ds
  | .tuple, ds => ev1 bTuple ds
  | .all, ds => ev1 bAll ds
  | .repr, ds => ev1 bRepr ds
  | .isTup, ds => ev1 (bIs "tuple") ds
  | .isInt, ds => ev1 (bIs "int") ds
  | .isBool, ds => ev1 (bIs "bool") ds
  | .isStr, ds => ev1 (bIs "str") ds
  | .dict T, ds => ev1 (bDict T) ds

/-! ### states -/
def frz (st : St) : Rv → Option (D × St)
  | .dat d => some (d, st)
  | .view i => match st.get i with
    | .lst xs => some (.list xs, st.put i (.dat (.list xs)))
    | .dct T kvs => some (dctD T kvs, st.put i (.dat (dctD T kvs)))
    | .dat d => some (d, st)
    | _ => none
  | .lst xs => some (.list xs, st)
  | .dct T kvs => some (dctD T kvs, st)
  | .src => none
/-- .. as a def's argument -/
def frzA (st : St) : Rv → Option (D × St)
  | .src => some (srcD, st)
  | r => frz st r
def res (st : St) : Rv → Option D
  | .dat d => some d
  | .view i => match st.get i with
    | .lst xs => some (.list xs)
    | .dct T kvs => some (dctD T kvs)
    | .dat d => some d
    | _ => none
  | .lst xs => some (.list xs)
  | .dct T kvs => some (dctD T kvs)
  | .src => none
def isDctO : Option D → Bool
  | some d => (dctOf d).isSome
  | _ => false
def isListO : Option D → Bool
  | some (.list _) => true
  | _ => false
def resAll (st : St) : List Rv → Option (List D)
  | [] => some []
  | r :: rs => (res st r).bind fun d => (resAll st rs).map fun ds => d :: ds
mutual
def bindT : Tg → D → St → Option St
  | .name i, d, st => some (st.put i (.dat d))
  | .tup ts, d, st => match d with
    | .tuple ds => bindTs ts ds st
    | _ => none
def bindTs : List Tg → List D → St → Option St
  | [], [], st => some st
  | t :: ts, d :: ds, st => (bindT t d st).bind fun st => bindTs ts ds st
  | _, _, _ => none
end
/-- the own names of a comprehension are hidden -/
def frzS : Sl → Sl
  | .lst xs => .dat (.list xs)
  | .dct T kvs => .dat (dctD T kvs)
  | s => s
def frzAt (st : St) (i : Nat) : St := st.put i (frzS (st.get i))
def unAt (st : St) (i : Nat) : St := st.put i .un
def hide (own : List Nat) (st : St) : St := own.foldl unAt st
def frzAll (own : List Nat) (st : St) : St := own.foldl frzAt st
def back (own : List Nat) (st0 st : St) : St := own.foldl (fun s i => s.put i (st0.get i)) st
def asBool : Option (Rv × St) → Option (Bool × St)
  | some (.dat (.bool b), st) => some (b, st)
  | _ => none
/-- a comprehension's turns -/
def compRun (f : D → St → Option (Option D × St)) : List D → St → Option (List D × St)
  | [], st => some ([], st)
  | d :: ds, st => (f d st).bind fun p => (compRun f ds p.2).bind fun q => some ((match p.1 with | some x => x :: q.1 | none => q.1), q.2)

def rgOk (a b : Int) : Bool := decide (a.natAbs < 2 ^ 62) && decide (b.natAbs < 2 ^ 62) && decide ((b - a).toNat ≤ 16777216)
def rgD (a b : Int) : List D := (List.range (b - a).toNat).map fun (k : Nat) => .int (a + (k : Int))
inductive Fn where
  | pure (F : List D → Option Rv)
  | srcd (F : List D → Src → Option (Rv × Src))
def Fn.runP : Fn → List D → Option Rv
  | .pure F, ds => F ds
  | _, _ => none
def Fn.runS : Fn → List D → Src → Option (Rv × Src)
  | .srcd F, ds, s => F ds s
  | _, _, _ => none

def srcLen : Option Src → Nat
  | some s => s.cells.length
  | none => 0
section
variable (Γ : Nat → Fn)
mutual
def eval : Ex → St → Option (Rv × St)
  | .nop, _ => none
  | .var i, st => match st.get i with
    | .un => none
    | .dat d => some (.dat d, st)
    | .lst _ => some (.view i, st)
    | .dct _ _ => some (.view i, st)
    | .src => some (.src, st)
  | .cst d, st => some (.dat d, st)
  | .tup es, st => (evals es st).bind fun p => if p.1.length ≤ sizeLine then some (.dat (.tuple p.1), p.2) else none
  | .lst es, st => (evals es st).bind fun p => if p.1.length ≤ sizeLine then some (.lst p.1, p.2) else none
  | .op2 o a b, st => (eval a st).bind fun p => (eval b p.2).bind fun q => (res q.2 p.1).bind fun x => (res q.2 q.1).bind fun y => (evOp2 o x y).map fun r => (r, q.2)
  | .neg a, st => (eval a st).bind fun p => (res p.2 p.1).bind fun x => (evNeg x).map fun r => (r, p.2)
  | .not a, st => (asBool (eval a st)).map fun p => (.dat (.bool (!p.1)), p.2)
  | .chain o1 o2 a b c, st => (eval a st).bind fun p => (eval b p.2).bind fun q => (res q.2 p.1).bind fun x => (res q.2 q.1).bind fun y => (evOp2 o1 x y).bind fun r =>
      match r with
      | .dat (.bool true) => (eval c q.2).bind fun t => (res t.2 t.1).bind fun z => (res t.2 q.1).bind fun y' => (evOp2 o2 y' z).map fun r => (r, t.2)
      | .dat (.bool false) => some (.dat (.bool false), q.2)
      | _ => none
  | .and2 a b, st => (asBool (eval a st)).bind fun p => if p.1 then (asBool (eval b p.2)).map fun q => (.dat (.bool q.1), q.2) else some (.dat (.bool false), p.2)
  | .or2 a b, st => (asBool (eval a st)).bind fun p => if p.1 then some (.dat (.bool true), p.2) else (asBool (eval b p.2)).map fun q => (.dat (.bool q.1), q.2)
  | .ite c a b, st => (asBool (eval c st)).bind fun p => if p.1 then eval a p.2 else eval b p.2
  | .idx a i, st => (eval a st).bind fun p => (eval i p.2).bind fun q => (res q.2 p.1).bind fun x => (res q.2 q.1).bind fun y => (evIdx x y).map fun d => (.dat d, q.2)
  | .slc k a lo hi, st => (eval a st).bind fun p => (evalO lo p.2).bind fun l => (evalO hi l.2).bind fun h => (res h.2 p.1).bind fun x => (evSlc k x l.1 h.1).map fun r => (r, h.2)
  | .call f es, st => (evals es st).bind fun p => ((Γ f).runP p.1).map fun r => (r, p.2)
  | .callS f es, st => (evala es st).bind fun p => p.2.src.bind fun s => ((Γ f).runS p.1 s).map fun r => (r.1, ⟨p.2.env, some r.2⟩)
  | .bi b es, st => (evalv es st).bind fun p => (resAll p.2 p.1).bind fun ds => (evBi b ds).map fun r => (r, p.2)
  | .comp own tg it c e, st => (evalI it st).bind fun p =>
      let s1 := frzAll own p.2
      (compRun (fun d s => (bindT tg d s).bind fun s => (evalC c s).bind fun b => if b.1 then (eval e b.2).bind fun r => (frz r.2 r.1).map fun x => (some x.1, hide own x.2) else some (none, hide own b.2)) p.1 (hide own s1)).bind fun q =>
        if q.1.length ≤ sizeLine then some (.lst q.1, back own s1 q.2) else none
  | .pop i a, st => if isLst (st.get i) then (evalO a st).bind fun p => match p.2.get i with
      | .lst xs => match p.1 with
        | none => (xs[xs.length - 1]?).map fun d => (.dat d, p.2.put i (.lst xs.dropLast))
        | some k => if fitI k then (L2.ixN xs.length k).bind fun j => (xs[j]?).map fun d => (.dat d, p.2.put i (.lst (xs.eraseIdx j))) else none
      | _ => none
      else none
  | .index a b, st => (eval a st).bind fun p => if isListO (res p.2 p.1) then (eval b p.2).bind fun q => (res q.2 p.1).bind fun x => (res q.2 q.1).bind fun y => match x with
      | .list ds => if okD 12 x && okD 12 y then (ds.findIdx? fun z => PyData.eqv z y).map fun (k : Nat) => (.dat (.int (k : Int)), q.2) else none
      | _ => none
      else none
  | .rngL tup a b, st => (evalO a st).bind fun p => (evalO b p.2).bind fun q => match q.1 with
      | some j => if rgOk (p.1.getD 0) j then some (if tup then .dat (.tuple (rgD (p.1.getD 0) j)) else .lst (rgD (p.1.getD 0) j), q.2) else none
      | none => none
  | .dnew T, st => some (.dct T [], st)
  | .ddisp k v, st => (eval k st).bind fun p => (frz p.2 p.1).bind fun x => (eval v x.2).bind fun q => (frz q.2 q.1).bind fun y => if leafK x.1 then some (.dct false [(x.1, y.1)], y.2) else none
  | .get2 a k d, st => (eval a st).bind fun p => if isDctO (res p.2 p.1) then (eval k p.2).bind fun q => (eval d q.2).bind fun r => (res r.2 p.1).bind fun x => (res r.2 q.1).bind fun y => match r.1 with
      | .dat z => (dctOf x).bind fun w => if keyOk w.1 y then some (.dat ((dfind w.2 y).getD z), r.2) else none
      | _ => none
      else none
  | .sget i f, st => match st.get i with
    | .src => st.src.map fun s => (.dat (.int (s.fld f)), st)
    | _ => none
  | .slen i, st => match st.get i with
    | .src => st.src.map fun s => (.dat (.int s.cells.length), st)
    | _ => none
  | .spop i, st => match st.get i with
    | .src => st.src.bind fun s => (s.cells[s.cells.length - 1]?).map fun c => (.dat (.int c), ⟨st.env, some ⟨s.cells.dropLast, s.left, s.mixed, s.turn⟩⟩)
    | _ => none
/-- an optional part of a slice: an int -/
def evalO : Ex → St → Option (Option Int × St)
  | .nop, st => some (none, st)
  | e, st => match eval e st with
    | some (.dat (.int i), st) => some (some i, st)
    | _ => none
/-- a clause's test -/
def evalC : Ex → St → Option (Bool × St)
  | .nop, st => some (true, st)
  | e, st => asBool (eval e st)
/-- arguments, frozen -/
def evals : Exs → St → Option (List D × St)
  | .nil, st => some ([], st)
  | .cons e es, st => (eval e st).bind fun p => (frz p.2 p.1).bind fun x => (evals es x.2).map fun q => (x.1 :: q.1, q.2)
  | .star e es, st => (eval e st).bind fun p => (frz p.2 p.1).bind fun x => (items x.1).bind fun xs => (evals es x.2).map fun q => (xs ++ q.1, q.2)
/-- arguments of a def: frozen, or the source -/
def evala : Exs → St → Option (List D × St)
  | .nil, st => some ([], st)
  | .cons e es, st => (eval e st).bind fun p => (frzA p.2 p.1).bind fun x => (evala es x.2).map fun q => (x.1 :: q.1, q.2)
  | .star _ _, _ => none
/-- arguments of a built-in: read, not kept -/
def evalv : Exs → St → Option (List Rv × St)
  | .nil, st => some ([], st)
  | .cons e es, st => (eval e st).bind fun p => (evalv es p.2).map fun q => (p.1 :: q.1, q.2)
  | .star _ _, _ => none
def evalI : Itx → St → Option (List D × St)
  | .seq e, st => (eval e st).bind fun p => (frz p.2 p.1).bind fun x => (items x.1).map fun ds => (ds, x.2)
  | .rng1 e, st => (eval e st).bind fun p => match p.1 with
    | .dat (.int n) => if decide (n.toNat ≤ 16777216) && decide (n.natAbs < 2 ^ 62) then some ((List.range n.toNat).map fun (k : Nat) => .int (k : Int), p.2) else none
    | _ => none
  | .rng2 a b, st => (eval a st).bind fun p => (eval b p.2).bind fun q => match p.1, q.1 with
    | .dat (.int i), .dat (.int j) => if decide (i.natAbs < 2 ^ 60) && decide (j.natAbs < 2 ^ 60) && decide ((j - i).toNat ≤ 16777216) then some ((List.range (j - i).toNat).map fun (k : Nat) => .int (i + (k : Int)), q.2) else none
    | _, _ => none
  | .enm e, st => (eval e st).bind fun p => (frz p.2 p.1).bind fun x => (items x.1).map fun ds => ((ds.zipIdx).map fun q => .tuple [.int q.2, q.1], x.2)
  | .zip strict a b, st => (eval a st).bind fun p => (frz p.2 p.1).bind fun x => (eval b x.2).bind fun q => (frz q.2 q.1).bind fun y => (zipOf strict x.1 y.1).map fun ds => (ds, y.2)
  | .dk i, st => (frz st (.view i)).bind fun x => (dctOf x.1).map fun q => (q.2.map (·.1), x.2)
  | .di i, st => (frz st (.view i)).bind fun x => (dctOf x.1).bind fun q => if q.1 then none else some (q.2.map fun p => .tuple [p.1, p.2], x.2)
end

/-- op= on ints -/
def augOp (o : Op2) (x y : Int) : Option Int := match o with
  | .add => some (x + y)
  | .sub => some (x - y)
  | .mul => if smallI x || smallI y then some (x * y) else none
  | _ => none
inductive Out where
  | nx (st : St) | rt (r : Rv) (st : St) | bk (st : St) | ct (st : St)
def clear (tmp : List Nat) (st : St) : St := tmp.foldl unAt st
/-- a loop's turns -/
def forRun (tmp : List Nat) (f : D → St → Option Out) : List D → St → Option Out
  | [], st => some (.nx (clear tmp st))
  | d :: ds, st => (f d (clear tmp st)).bind fun o => match o with
    | .nx st => forRun tmp f ds st
    | .ct st => forRun tmp f ds st
    | .bk st => some (.nx (clear tmp st))
    | .rt r st => some (.rt r st)
def whlRun (tmp : List Nat) (c : St → Option (Bool × St)) (f : St → Option Out) : Nat → St → Option Out
  | 0, _ => none
  | n + 1, st => (c (clear tmp st)).bind fun b => if b.1 then (f b.2).bind fun o => match o with
    | .nx st => whlRun tmp c f n st
    | .ct st => whlRun tmp c f n st
    | .bk st => some (.nx (clear tmp st))
    | .rt r st => some (.rt r st)
    else some (.nx b.2)
/-- a result is stored at a name -/
def keep (st : St) (i : Nat) : Rv → Option St
  | .dat d => some (st.put i (.dat d))
  | .lst xs => some (st.put i (.lst xs))
  | .dct T kvs => some (st.put i (.dct T kvs))
  | .view j => (frz st (.view j)).map fun p => p.2.put i (.dat p.1)
  | .src => none
/-- a slot's list is frozen, a new list stays new -/
def unview (st : St) : Rv → Option (Rv × St)
  | .dat d => some (.dat d, st)
  | .view j => (frz st (.view j)).map fun x => (.dat x.1, x.2)
  | .lst xs => some (.lst xs, st)
  | .dct T kvs => some (.dct T kvs, st)
  | .src => none
/-- a list of results, slots' lists frozen -/
def evalk : Exs → St → Option (List Rv × St)
  | .nil, st => some ([], st)
  | .cons e es, st => (eval Γ e st).bind fun p => (unview p.2 p.1).bind fun x => (evalk es x.2).map fun q => (x.1 :: q.1, q.2)
  | .star _ _, _ => none
def keeps : List Nat → List Rv → St → Option St
  | [], [], st => some st
  | i :: is, r :: rs, st => (keep st i r).bind fun st => keeps is rs st
  | _, _, _ => none
/-- a slot of a list or dict of its own -/
def isOwn : Sl → Bool
  | .lst _ => true
  | .dct _ _ => true
  | _ => false
/-- slot i's list at k becomes d -/
def setAt (i : Nat) (k : Ex) (d : D) (st : St) : Option St := if isOwn (st.get i) then (eval Γ k st).bind fun q => match q.2.get i with
    | .lst xs => (match q.1 with
      | .dat (.int n) => (L2.ixN xs.length n).map fun j => q.2.put i (.lst (xs.set j d))
      | _ => none)
    | .dct T kvs => (match q.1 with
      | .dat y => if keyOk T y && decide (kvs.length < sizeLine) then some (q.2.put i (.dct T (dput kvs y d))) else none
      | _ => none)
    | _ => none
    else none
def storeX : Tgx → Rv → St → Option St
  | .nm i, r, st => keep st i r
  | .ix i k, r, st => (frz st r).bind fun x => setAt Γ i k x.1 x.2
def storesX : List Tgx → List Rv → St → Option St
  | [], [], st => some st
  | t :: ts, r :: rs, st => (storeX Γ t r st).bind fun st => storesX ts rs st
  | _, _, _ => none
mutual
def exec : Sm → St → Option Out
  | .set i e, st => (eval Γ e st).bind fun p => (keep p.2 i p.1).map .nx
  | .asgN is es, st => (evalk Γ es st).bind fun p => (keeps is p.1 p.2).map .nx
  | .asgX ts es, st => (evalk Γ es st).bind fun p => if p.1.length ≤ sizeLine then (storesX Γ ts p.1 p.2).map .nx else none
  | .asgT tg e, st => (eval Γ e st).bind fun p => (frz p.2 p.1).bind fun x => (bindT tg x.1 x.2).map .nx
  | .app i e, st => if isLst (st.get i) then (eval Γ e st).bind fun p => (frz p.2 p.1).bind fun x => match x.2.get i with
    | .lst xs => if xs.length < sizeLine then some (.nx (x.2.put i (.lst (xs ++ [x.1])))) else none
    | _ => none
    else none
  | .ext i e, st => if isLst (st.get i) then (eval Γ e st).bind fun p => (frz p.2 p.1).bind fun x => match x.2.get i with
    | .lst xs => (listOf x.1).bind fun ys => if xs.length + ys.length ≤ sizeLine then some (.nx (x.2.put i (.lst (xs ++ ys)))) else none
    | _ => none
    else none
  | .setI i k e, st => (eval Γ e st).bind fun p => (frz p.2 p.1).bind fun x => (setAt Γ i k x.1 x.2).map .nx
  | .augN i o e, st => match st.get i with
    | .dat (.int x) => (eval Γ e st).bind fun p => match p.1 with
      | .dat (.int y) => (augOp o x y).map fun z => .nx (p.2.put i (.dat (.int z)))
      | _ => none
    | _ => none
  | .augI i k o e, st => if isLst (st.get i) then (eval Γ k st).bind fun q => match q.1, q.2.get i with
    | .dat (.int n), .lst xs => (L2.atI xs n).bind fun x => (eval Γ e q.2).bind fun p => match x, p.1, p.2.get i with
      | .int x, .dat (.int y), .lst ys => (augOp o x y).bind fun z => (L2.ixN ys.length n).map fun j => .nx (p.2.put i (.lst (ys.set j (.int z))))
      | _, _, _ => none
    | _, _ => none
    else none
  | .ite c t e, st => (asBool (eval Γ c st)).bind fun p => if p.1 then execs t p.2 else execs e p.2
  | .for tmp tg it body, st => (evalI Γ it st).bind fun p => forRun tmp (fun d s => (bindT tg d s).bind fun s => execs body s) p.1 p.2
  | .whl fuel tmp c body, st => whlRun tmp (fun s => asBool (eval Γ c s)) (fun s => execs body s) (fuel + srcLen st.src) st
  | .ret e, st => (eval Γ e st).bind fun p => match p.1 with
    | .view j => (res p.2 (.view j)).bind fun d => match p.2.get j, d with
      | .lst xs, _ => some (.rt (.lst xs) (unAt p.2 j))
      | .dct T kvs, _ => some (.rt (.dct T kvs) (unAt p.2 j))
      | _, d => some (.rt (.dat d) p.2)
    | .src => none
    | r => some (.rt r p.2)
  | .expr e, st => (eval Γ e st).map fun p => .nx p.2
  | .brk, st => some (.bk st)
  | .cnt, st => some (.ct st)
  | .pass, st => some (.nx st)
  | .sset i f e, st => (eval Γ e st).bind fun p => match p.1, p.2.get i with
    | .dat (.int n), .src => p.2.src.map fun s => .nx ⟨p.2.env, some (s.setf n f)⟩
    | _, _ => none
def execs : Sms → St → Option Out
  | .nil, st => some (.nx st)
  | .cons s ss, st => (exec s st).bind fun o => match o with
    | .nx st => execs ss st
    | o => some o
end
/-- an argument at its slot -/
def argSl : D → Sl
  | .dict [(.none, .none)] => .src
  | d => .dat d
/-- a def without a source: its parameters, then n more slots -/
def runP (n : Nat) (body : Sms) (ds : List D) : Option Rv := match execs Γ body ⟨ds.map argSl ++ List.replicate n .un, none⟩ with
  | some (.rt r _) => some r
  | some (.nx _) => some (.dat .none)
  | _ => none
/-- a def with the source among its arguments -/
def runS (n : Nat) (body : Sms) (ds : List D) (s : Src) : Option (Rv × Src) := match execs Γ body ⟨ds.map argSl ++ List.replicate n .un, some s⟩ with
  | some (.rt r st) => st.src.map fun s => (r, s)
  | some (.nx st) => st.src.map fun s => (.dat .none, s)
  | _ => none
end
end Pf

set_option maxRecDepth 100000
/-! Pf2: what a state of the evaluator says of the slots and the abstract heap. -/
namespace Pf
open PySem PySem.Spec PyProof.Rows
open L2 (V Hp HO upd upd_same upd_ne Same SqL SqT Dp DpAll Key Vals)

/-- a dict's mark among the frozen: it may be walked meanwhile -/
def oz : Obj := { cls := .type "dict", data := .dict #[] }
def dz (u : HO) : HO := .frz oz u
def isFrz : HO → Bool
  | .frz _ _ => true
  | _ => false
/-- what is frozen stands so in the heap (a dict: as it may be read) -/
def Sub (Z H : Hp) : Prop := ∀ a o, Z a = some o → (isFrz o = false → H a = some o) ∧ ∀ p u, o = .frz p u → L2.Rd H a u ∧ ∀ vs, u ≠ .tup vs
theorem Sub.at {Z H : Hp} (S : Sub Z H) {a : Addr} {o : HO} (h : Z a = some o) (n : isFrz o = false := by rfl) : H a = some o := (S a o h).1 n
theorem Sub.rd {Z H : Hp} (S : Sub Z H) {a : Addr} {u : HO} (h : Z a = some (dz u)) : L2.Rd H a u := ((S a _ h).2 _ _ rfl).1
theorem Sub.there {Z H : Hp} (S : Sub Z H) {a : Addr} {o : HO} (h : Z a = some o) : H a ≠ none := by
  obtain ⟨h1, h2⟩ := S a o h
  cases q : isFrz o with
  | false => rw [h1 q]; exact fun z => nomatch z
  | true =>
    cases o with
    | frz p u =>
      rcases (h2 p u rfl).1 with e | ⟨_, e⟩ <;> rw [e] <;> exact fun z => nomatch z
    | _ => cases q
theorem Sub.keep {Z H H' : Hp} (S : Sub Z H) (k : ∀ b, Z b ≠ none → H' b = H b) : Sub Z H' := fun a o h => by
  have e := k a (by rw [h]; exact fun z => nomatch z)
  obtain ⟨h1, h2⟩ := S a o h
  refine ⟨fun q => e.trans (h1 q), fun p u q => ?_⟩
  obtain ⟨h2, h3⟩ := h2 p u q
  refine ⟨?_, h3⟩
  rcases h2 with z | ⟨x, z⟩
  · exact .inl (e.trans z)
  · exact .inr ⟨x, e.trans z⟩
theorem Sub.free {Z H : Hp} (S : Sub Z H) {a : Addr} (h : H a = none) : Z a = none := by
  cases q : Z a with
  | none => rfl
  | some o => exact absurd h (S.there q)
theorem _root_.L2.Same.subT {Z Z' H : Hp} (S : Same Z Z') (T : Sub Z' H) : Sub Z H := fun a o h => T a o (S a o h)
def keyD : Key → D
  | .inl i => .int i
  | .inr x => .str x
def keysD (ks : List Key) : D := .tuple (ks.map keyD)
mutual
/-- v stands for the data d, all its lists and tuples are tracked in Z -/
inductive Dt (Z : Hp) : V → D → Prop
  | non : Dt Z .non .none
  | bl (b : Bool) : Dt Z (.bl b) (.bool b)
  | int (i : Int) : Dt Z (.int i) (.int i)
  | str (x : Str) : Dt Z (.str x) (.str x)
  | lst {a : Addr} {xs : List V} {ds : List D} : Z a = some (.lst xs) → DtAll Z xs ds → Dt Z (.ref a) (.list ds)
  | tup {a : Addr} {xs : List V} {ds : List D} : Z a = some (.tup xs) → DtAll Z xs ds → Dt Z (.ref a) (.tuple ds)
  | dcK {a : Addr} {kvs : List (Key × V)} {es : List D} : Z a = some (dz (.dK kvs)) → DtAll Z (kvs.map Prod.snd) es → Dt Z (.ref a) (dctD false ((kvs.map fun p => keyD p.1).zip es))
  | dcT {a : Addr} {kvs : List (List Key × V)} {es : List D} : Z a = some (dz (.dT kvs)) → DtAll Z (kvs.map Prod.snd) es → Dt Z (.ref a) (dctD true ((kvs.map fun p => keysD p.1).zip es))
inductive DtAll (Z : Hp) : List V → List D → Prop
  | nil : DtAll Z [] []
  | cons {v : V} {vs : List V} {d : D} {ds : List D} : Dt Z v d → DtAll Z vs ds → DtAll Z (v :: vs) (d :: ds)
end
mutual
theorem dtMono' {H H' : Hp} (e : Same H H') : ∀ {v : V} {d : D}, Dt H v d → Dt H' v d
  | _, _, .non => .non
  | _, _, .bl _ => .bl _
  | _, _, .int _ => .int _
  | _, _, .str _ => .str _
  | _, _, .lst h1 h2 => .lst (e _ _ h1) (dtAllMono' e h2)
  | _, _, .tup h1 h2 => .tup (e _ _ h1) (dtAllMono' e h2)
  | _, _, .dcK h1 h2 => .dcK (e _ _ h1) (dtAllMono' e h2)
  | _, _, .dcT h1 h2 => .dcT (e _ _ h1) (dtAllMono' e h2)
theorem dtAllMono' {H H' : Hp} (e : Same H H') : ∀ {vs : List V} {ds : List D}, DtAll H vs ds → DtAll H' vs ds
  | _, _, .nil => .nil
  | _, _, .cons h1 h2 => .cons (dtMono' e h1) (dtAllMono' e h2)
end
theorem dtMono {H H' : Hp} (e : Same H H') : ∀ (d : D) {v : V}, Dt H v d → Dt H' v d := fun _ _ h => dtMono' e h
theorem dtAllMono {H H' : Hp} (e : Same H H') : ∀ (ds : List D) {vs : List V}, DtAll H vs ds → DtAll H' vs ds := fun _ _ h => dtAllMono' e h
mutual
theorem Dt.dp {K : PySem.W.Frag} {Z H : Hp} (S : Sub Z H) : ∀ {v : V} {d : D} {k : Nat}, okD k d = true → Dt Z v d → Dp K H v d
  | _, _, _, _, .non => .non
  | _, _, _, _, .bl _ => .bl _
  | _, _, _, _, .int _ => .int _
  | _, _, _, _, .str _ => .str _
  | _, _, k, o, .lst h1 h2 => .lst (SqL.of (S.at h1)) (DtAll.dp S (k := k - 1) (by cases k with | zero => simp [okD] at o | succ k => simpa [okD] using o) h2)
  | _, _, k, o, .tup h1 h2 => .tup (SqT.of (S.at h1)) (DtAll.dp S (k := k - 1) (by cases k with | zero => simp [okD] at o | succ k => simpa [okD] using o) h2)
  | _, _, k, o, .dcK h1 h2 => by cases k <;> simp [okD, dctD] at o
  | _, _, k, o, .dcT h1 h2 => by cases k <;> simp [okD, dctD] at o
theorem DtAll.dp {K : PySem.W.Frag} {Z H : Hp} (S : Sub Z H) : ∀ {vs : List V} {ds : List D} {k : Nat}, (∀ d ∈ ds, okD k d = true) → DtAll Z vs ds → DpAll K H vs ds
  | _, _, _, _, .nil => .nil
  | _, _, _, o, .cons h1 h2 => .cons (Dt.dp S (o _ (by simp)) h1) (DtAll.dp S (fun d hd => o d (by simp [hd])) h2)
end
section
variable {Z : Hp}
theorem DtAll.len : ∀ {vs : List V} {ds : List D}, DtAll Z vs ds → vs.length = ds.length
  | _, _, .nil => rfl
  | _, _, .cons _ t => congrArg (· + 1) (DtAll.len t)
theorem DtAll.get : ∀ {vs : List V} {ds : List D} {i : Nat} {d : D}, DtAll Z vs ds → ds[i]? = some d → ∃ v, vs[i]? = some v ∧ Dt Z v d
  | _, _, _, _, .nil, h => by simp at h
  | _, _, 0, _, .cons h1 _, h => by
    simp at h
    subst h
    exact ⟨_, rfl, h1⟩
  | _, _, i + 1, _, .cons _ h2, h => by
    obtain ⟨v, e, q⟩ := DtAll.get (i := i) h2 (by simpa using h)
    exact ⟨v, by simpa using e, q⟩
theorem DtAll.get' {vs : List V} {ds : List D} {i : Nat} {v : V} (h : DtAll Z vs ds) (e : vs[i]? = some v) : ∃ d, ds[i]? = some d ∧ Dt Z v d := by
  have hi : i < ds.length := by rw [← h.len]; exact (List.getElem?_eq_some_iff.mp e).1
  obtain ⟨w, e1, q⟩ := h.get (List.getElem?_eq_getElem hi)
  rw [e] at e1
  cases e1
  exact ⟨_, List.getElem?_eq_getElem hi, q⟩
theorem DtAll.append : ∀ {vs ws : List V} {ds es : List D}, DtAll Z vs ds → DtAll Z ws es → DtAll Z (vs ++ ws) (ds ++ es)
  | _, _, _, _, .nil, h => h
  | _, _, _, _, .cons h1 h2, h => .cons h1 (DtAll.append h2 h)
theorem DtAll.take : ∀ {vs : List V} {ds : List D} (n : Nat), DtAll Z vs ds → DtAll Z (vs.take n) (ds.take n)
  | _, _, 0, _ => by simp; exact .nil
  | _, _, _ + 1, .nil => .nil
  | _, _, n + 1, .cons h1 h2 => .cons h1 (DtAll.take n h2)
theorem DtAll.drop : ∀ {vs : List V} {ds : List D} (n : Nat), DtAll Z vs ds → DtAll Z (vs.drop n) (ds.drop n)
  | _, _, 0, h => h
  | _, _, _ + 1, .nil => .nil
  | _, _, n + 1, .cons _ h2 => DtAll.drop n h2
theorem DtAll.set : ∀ {vs : List V} {ds : List D} (n : Nat) {v : V} {d : D}, DtAll Z vs ds → Dt Z v d → DtAll Z (vs.set n v) (ds.set n d)
  | _, _, _, _, _, .nil, _ => .nil
  | _, _, 0, _, _, .cons _ h2, h => .cons h h2
  | _, _, n + 1, _, _, .cons h1 h2, h => .cons h1 (DtAll.set n h2 h)
theorem DtAll.eraseIdx : ∀ {vs : List V} {ds : List D} (n : Nat), DtAll Z vs ds → DtAll Z (vs.eraseIdx n) (ds.eraseIdx n)
  | _, _, _, .nil => by simp; exact .nil
  | _, _, 0, .cons _ h2 => h2
  | _, _, n + 1, .cons h1 h2 => .cons h1 (DtAll.eraseIdx n h2)
theorem DtAll.dropLast {vs : List V} {ds : List D} (h : DtAll Z vs ds) : DtAll Z vs.dropLast ds.dropLast := by
  rw [List.dropLast_eq_take, List.dropLast_eq_take, h.len]
  exact h.take _
theorem DtAll.reverse : ∀ {vs : List V} {ds : List D}, DtAll Z vs ds → DtAll Z vs.reverse ds.reverse
  | _, _, .nil => .nil
  | _, _, .cons h1 h2 => by
    rw [List.reverse_cons, List.reverse_cons]
    exact (DtAll.reverse h2).append (.cons h1 .nil)
theorem DtAll.rep {vs : List V} {ds : List D} (h : DtAll Z vs ds) : ∀ k : Nat, DtAll Z (List.replicate k vs).flatten (List.replicate k ds).flatten
  | 0 => .nil
  | k + 1 => by
    rw [List.replicate_succ, List.replicate_succ, List.flatten_cons, List.flatten_cons]
    exact h.append (DtAll.rep h k)
theorem DtAll.ints : ∀ (ns : List Int) , DtAll Z (ns.map V.int) (ns.map PyData.int)
  | [] => .nil
  | n :: ns => .cons (.int n) (DtAll.ints ns)
theorem DtAll.of_ints : ∀ {ds : List D} {vs : List V} {ns : List Int}, DtAll Z vs ds → intsOf ds = some ns → vs = ns.map V.int
  | [], _, ns, h, e => by
    cases h
    simp [intsOf] at e
    subst e
    rfl
  | d :: ds, _, ns, h, e => by
    cases h with
    | cons h1 h2 =>
      cases h1 with
      | int i =>
        simp only [intsOf, Option.map_eq_some_iff] at e
        obtain ⟨l, e1, e2⟩ := e
        subst e2
        rw [DtAll.of_ints h2 e1]
        rfl
      | _ => first | (simp [intsOf] at e; done) | (simp [intsOf, dctD] at e)
theorem DtAll.of_bools : ∀ {ds : List D} {vs : List V} {ns : List Bool}, DtAll Z vs ds → boolsOf ds = some ns → vs = ns.map V.bl
  | [], _, ns, h, e => by
    cases h
    simp [boolsOf] at e
    subst e
    rfl
  | d :: ds, _, ns, h, e => by
    cases h with
    | cons h1 h2 =>
      cases h1 with
      | bl i =>
        simp only [boolsOf, Option.map_eq_some_iff] at e
        obtain ⟨l, e1, e2⟩ := e
        subst e2
        rw [DtAll.of_bools h2 e1]
        rfl
      | _ => first | (simp [boolsOf] at e; done) | (simp [boolsOf, dctD] at e)
end

/-- the ghost part: the frozen objects, the slots' own -/
structure Gh where
  Z : Hp
  w : Addr → Option Nat
/-- a dict's object and its entries -/
inductive DkOk (Z : Hp) : Bool → HO → List (D × D) → Prop
  | k {kvs : List (Key × V)} {es : List D} : DtAll Z (kvs.map Prod.snd) es → DkOk Z false (.dK kvs) ((kvs.map fun p => keyD p.1).zip es)
  | t {kvs : List (List Key × V)} {es : List D} : DtAll Z (kvs.map Prod.snd) es → DkOk Z true (.dT kvs) ((kvs.map fun p => keysD p.1).zip es)
theorem DkOk.mono {Z Z' : Hp} (e : Same Z Z') {T : Bool} {o : HO} {kvs : List (D × D)} (h : DkOk Z T o kvs) : DkOk Z' T o kvs := by
  cases h with
  | k h => exact .k (dtAllMono e _ h)
  | t h => exact .t (dtAllMono e _ h)
theorem DkOk.dt {Z : Hp} {T : Bool} {o : HO} {kvs : List (D × D)} {a : Addr} (h : DkOk Z T o kvs) (e : Z a = some (dz o)) : Dt Z (.ref a) (dctD T kvs) := by
  cases h with
  | k h => exact .dcK e h
  | t h => exact .dcT e h
abbrev SA := Option (Addr × Addr)
def Ntup (o : HO) : Prop := ∀ vs, o ≠ .tup vs
theorem ntupK {kvs : List (Key × V)} : Ntup (.dK kvs) := fun _ z => nomatch z
theorem ntupL {xs : List V} : Ntup (.lst xs) := fun _ z => nomatch z
/-- an object that is no tuple -/
def Ownd (x : Option HO) : Prop := x ≠ none ∧ ∀ vs, x ≠ some (.tup vs)
theorem Ownd.keep {H H' : Hp} {a : Addr} (h : Ownd (H a)) (k : ∀ o, H a = some o → H' a = some o) : Ownd (H' a) := by
  cases q : H a with
  | none => exact absurd q h.1
  | some o => rw [k o q]; rw [q] at h; exact h
theorem DkOk.no {Z : Hp} {T : Bool} {o : HO} {kvs : List (D × D)} (h : DkOk Z T o kvs) : ∀ vs, o ≠ .tup vs := by
  cases h <;> exact fun _ z => nomatch z
def NotSrc (sa : SA) (a : Addr) : Prop := ∀ s0 c0, sa = some (s0, c0) → a ≠ s0 ∧ a ≠ c0
def SlOk (sa : SA) (g : Gh) (H : Hp) (i : Nat) (x : Option (Option V)) : Sl → Prop
  | .un => True
  | .dat d => ∃ v, x = some (some v) ∧ Dt g.Z v d
  | .src => ∃ s0 c0, sa = some (s0, c0) ∧ x = some (some (.ref s0))
  | .lst xs => ∃ a vs, x = some (some (.ref a)) ∧ H a = some (.lst vs) ∧ DtAll g.Z vs xs ∧ g.w a = some i ∧ NotSrc sa a
  | .dct T kvs => ∃ a o, x = some (some (.ref a)) ∧ H a = some o ∧ DkOk g.Z T o kvs ∧ g.w a = some i ∧ NotSrc sa a
def kS (x : Str) : Key := .inr x
def srcKvs (c0 : Addr) (s : Src) : List (Key × V) := [(kS "cells", .ref c0), (kS "left", .int s.left), (kS "mixed", .int s.mixed), (kS "turn", .int s.turn)]
structure SrcAt (s0 c0 : Addr) (s : Src) (g : Gh) (H : Hp) : Prop where
  d : H s0 = some (.dK (srcKvs c0 s))
  c : H c0 = some (.lst (s.cells.map V.int))
  ne : s0 ≠ c0
  zs : g.Z s0 = none
  zc : g.Z c0 = none
  ws : g.w s0 = none
  wc : g.w c0 = none
def SrcOk (sa : SA) (g : Gh) (H : Hp) (s : Option Src) : Prop := (sa = none ∧ s = none) ∨ ∃ s0 c0 t, sa = some (s0, c0) ∧ s = some t ∧ SrcAt s0 c0 t g H
theorem SrcOk.map {sa : SA} {g g' : Gh} {H H' : Hp} {s : Option Src} (h : SrcOk sa g H s) (k : ∀ s0 c0 t, sa = some (s0, c0) → SrcAt s0 c0 t g H → SrcAt s0 c0 t g' H') : SrcOk sa g' H' s := by
  rcases h with h | ⟨s0, c0, t, e1, e2, h⟩
  · exact .inl h
  · exact .inr ⟨s0, c0, t, e1, e2, k s0 c0 t e1 h⟩
structure SR (sa : SA) (g : Gh) (st : St) (σ : L2.St) (H : Hp) : Prop where
  sub : Sub g.Z H
  own : ∀ a i, g.w a = some i → g.Z a = none ∧ Ownd (H a)
  len : st.env.length = σ.length
  slot : ∀ i, SlOk sa g H i σ[i]? (st.get i)
  src : SrcOk sa g H st.src
/-- what an evaluation may change -/
structure Ext (sa : SA) (g : Gh) (H : Hp) (g' : Gh) (H' : Hp) : Prop where
  z : Same g.Z g'.Z
  keep : ∀ a o, H a = some o → g.w a = none → NotSrc sa a → H' a = some o ∧ g'.w a = none ∧ (Ntup o → g.Z a = none → g'.Z a = none)
  there : ∀ a, H a ≠ none → H' a ≠ none
theorem Ext.refl {sa : SA} {g : Gh} {H : Hp} : Ext sa g H g H := ⟨Same.refl _, fun _ _ e n _ => ⟨e, n, fun _ z => z⟩, fun _ h => h⟩
theorem Ext.trans {sa : SA} {g g1 g2 : Gh} {H H1 H2 : Hp} (a : Ext sa g H g1 H1) (b : Ext sa g1 H1 g2 H2) : Ext sa g H g2 H2 :=
  ⟨a.z.trans b.z, fun c o e n s => by
    obtain ⟨e1, n1, z1⟩ := a.keep c o e n s
    obtain ⟨e2, n2, z2⟩ := b.keep c o e1 n1 s
    exact ⟨e2, n2, fun t z => z2 t (z1 t z)⟩, fun c h => b.there c (a.there c h)⟩
/-- what a result is; H0: the heap ahead of the evaluation -/
def RvOk (sa : SA) (H0 : Hp) (g : Gh) (σ : L2.St) (H : Hp) (v : V) : Rv → Prop
  | .dat d => Dt g.Z v d
  | .src => ∃ s0 c0, sa = some (s0, c0) ∧ v = .ref s0
  | .view i => σ[i]? = some (some v)
  | .lst xs => ∃ p vs, v = .ref p ∧ H0 p = none ∧ H p = some (.lst vs) ∧ DtAll g.Z vs xs ∧ g.Z p = none ∧ g.w p = none ∧ NotSrc sa p
  | .dct T kvs => ∃ p o, v = .ref p ∧ H0 p = none ∧ H p = some o ∧ DkOk g.Z T o kvs ∧ g.Z p = none ∧ g.w p = none ∧ NotSrc sa p

section
variable {sa : SA} {g g' : Gh} {st : St} {σ : L2.St} {H H' H0 : Hp} {v : V}
theorem RvOk.weak {r : Rv} (h : RvOk sa H' g σ H v r) (e : ∀ a, H0 a ≠ none → H' a ≠ none) : RvOk sa H0 g σ H v r := by
  cases r with
  | dat d => exact h
  | view i => exact h
  | src => exact h
  | lst xs =>
    obtain ⟨p, vs, h1, h2, h3⟩ := h
    refine ⟨p, vs, h1, ?_, h3⟩
    cases q : H0 p with
    | none => rfl
    | some o => exact absurd h2 (e p (by rw [q]; exact fun z => nomatch z))
  | dct T kvs =>
    obtain ⟨p, vs, h1, h2, h3⟩ := h
    refine ⟨p, vs, h1, ?_, h3⟩
    cases q : H0 p with
    | none => rfl
    | some o => exact absurd h2 (e p (by rw [q]; exact fun z => nomatch z))
/-- a result stays what it is while something else is evaluated -/
theorem RvOk.ext {r : Rv} (h : RvOk sa H0 g σ H v r) (e : Ext sa g H g' H') : RvOk sa H0 g' σ H' v r := by
  cases r with
  | dat d => exact dtMono e.z _ h
  | view i => exact h
  | src => exact h
  | lst xs =>
    obtain ⟨p, vs, h1, h2, h3, h4, h5, h6, h7⟩ := h
    obtain ⟨e1, e2, e3⟩ := e.keep p _ h3 h6 h7
    exact ⟨p, vs, h1, h2, e1, dtAllMono e.z _ h4, e3 ntupL h5, e2, h7⟩
  | dct T kvs =>
    obtain ⟨p, o, h1, h2, h3, h4, h5, h6, h7⟩ := h
    obtain ⟨e1, e2, e3⟩ := e.keep p _ h3 h6 h7
    exact ⟨p, o, h1, h2, e1, h4.mono e.z, e3 h4.no h5, e2, h7⟩

theorem get_put_same {i : Nat} {x : Sl} (h : i < st.env.length) : (st.put i x).get i = x := by
  unfold St.get St.put
  simp [List.getD_eq_getElem?_getD, List.getElem?_set_self h]
theorem get_put_ne {i j : Nat} {x : Sl} (h : j ≠ i) : (st.put i x).get j = st.get j := by
  unfold St.get St.put
  simp [List.getD_eq_getElem?_getD, List.getElem?_set_ne (Ne.symm h)]
theorem get_lt {i : Nat} (h : st.get i ≠ .un) : i < st.env.length := by
  unfold St.get at h
  rw [List.getD_eq_getElem?_getD] at h
  by_cases q : i < st.env.length
  · exact q
  · rw [List.getElem?_eq_none (by omega)] at h
    exact absurd rfl h
theorem put_ge {i : Nat} {x : Sl} (h : ¬ i < st.env.length) : st.put i x = st := by
  unfold St.put
  rw [List.set_eq_of_length_le (by omega)]
theorem put_len {i : Nat} {x : Sl} : (st.put i x).env.length = st.env.length := by
  unfold St.put
  simp

theorem SlOk.mono {i : Nat} {x : Option (Option V)} {s : Sl} (h : SlOk sa g H i x s) (z : Same g.Z g'.Z) (k : ∀ a vs, H a = some vs → g.w a = some i → H' a = some vs ∧ g'.w a = some i) : SlOk sa g' H' i x s := by
  cases s with
  | un => trivial
  | dat d =>
    obtain ⟨v, e, r⟩ := h
    exact ⟨v, e, dtMono z _ r⟩
  | src => exact h
  | lst xs =>
    obtain ⟨a, vs, e, h1, h2, h3, h4⟩ := h
    obtain ⟨q1, q2⟩ := k a _ h1 h3
    exact ⟨a, vs, e, q1, dtAllMono z _ h2, q2, h4⟩
  | dct T kvs =>
    obtain ⟨a, o, e, h1, h2, h3, h4⟩ := h
    obtain ⟨q1, q2⟩ := k a _ h1 h3
    exact ⟨a, o, e, q1, h2.mono z, q2, h4⟩

/-- a slot is stored -/
theorem SR.put {i : Nat} {x : Sl} {o : Option V} (R : SR sa g st σ H) (h : SlOk sa g H i (some o) x) : SR sa g (st.put i x) (σ.set i o) H := by
  refine ⟨R.sub, R.own, by rw [put_len, List.length_set]; exact R.len, fun j => ?_, R.src⟩
  by_cases e : j = i
  · subst e
    by_cases q : j < st.env.length
    · rw [get_put_same q, List.getElem?_set_self (by rw [← R.len]; exact q)]
      exact h
    · have : (st.put j x).get j = .un := by
        rw [put_ge q]
        unfold St.get
        rw [List.getD_eq_getElem?_getD, List.getElem?_eq_none (by omega)]
        rfl
      rw [this]
      trivial
  · rw [get_put_ne e, List.getElem?_set_ne (Ne.symm e)]
    exact R.slot j
/-- a slot's content is told otherwise, the value stays -/
theorem SR.tell {i : Nat} {x : Sl} (R : SR sa g st σ H) (h : i < st.env.length → SlOk sa g H i σ[i]? x) : SR sa g (st.put i x) σ H := by
  refine ⟨R.sub, R.own, by rw [put_len]; exact R.len, fun j => ?_, R.src⟩
  by_cases e : j = i
  · subst e
    by_cases q : j < st.env.length
    · rw [get_put_same q]
      exact h q
    · rw [put_ge q]
      exact R.slot j
  · rw [get_put_ne e]
    exact R.slot j
theorem SR.unAt (R : SR sa g st σ H) (i : Nat) : SR sa g (unAt st i) σ H := R.tell fun _ => trivial
theorem SR.hide (R : SR sa g st σ H) : ∀ own : List Nat, SR sa g (hide own st) σ H := by
  intro own
  unfold Pf.hide
  induction own generalizing st with
  | nil => exact R
  | cons i r ih => exact ih (R.unAt i)
/-- slots may be forgotten where the state does not speak of them -/
theorem SR.weak {σ' : L2.St} (R : SR sa g st σ H) (hl : σ'.length = σ.length) (h : ∀ i, st.get i ≠ .un → σ'[i]? = σ[i]?) : SR sa g st σ' H := by
  refine ⟨R.sub, R.own, R.len.trans hl.symm, fun i => ?_, R.src⟩
  by_cases q : st.get i = .un
  · rw [q]; trivial
  · rw [h i q]; exact R.slot i

/-- an own slot's object is frozen -/
theorem SR.freezeO {i : Nat} {a : Addr} {o o' : HO} {d : D} (R : SR sa g st σ H) (e : σ[i]? = some (some (.ref a))) (h1 : H a = some o) (h3 : g.w a = some i) (h4 : NotSrc sa a)
    (ho : (isFrz o' = false → H a = some o') ∧ ∀ p u, o' = .frz p u → L2.Rd H a u ∧ ∀ vs, u ≠ .tup vs) (hd : Same g.Z (upd g.Z a o') → Dt (upd g.Z a o') (.ref a) d) : ∃ g', SR sa g' (st.put i (.dat d)) σ H ∧ Ext sa g H g' H ∧ Dt g'.Z (.ref a) d := by
  obtain ⟨z1, z2⟩ := R.own a i h3
  have zz : Same g.Z (upd g.Z a o') := fun b o q => by
    rw [upd_ne (fun z => by rw [z, z1] at q; cases q)]
    exact q
  refine ⟨⟨upd g.Z a o', fun b => if b = a then none else g.w b⟩, ?_, ⟨zz, fun b o q n ns => ⟨q, ?_, fun _ z => ?_⟩, fun _ q => q⟩, hd zz⟩
  · have base : SR sa ⟨upd g.Z a o', fun b => if b = a then none else g.w b⟩ (st.put i .un) σ H := by
      refine ⟨fun b o q => ?_, fun b j q => ?_, by rw [put_len]; exact R.len, fun j => ?_, ?_⟩
      · by_cases e : b = a
        · subst e
          have q : upd g.Z b o' b = some o := q
          rw [upd_same] at q
          cases q
          exact ho
        · have q : upd g.Z a o' b = some o := q
          rw [upd_ne e] at q
          exact R.sub b o q
      · have q : (if b = a then none else g.w b) = some j := q
        by_cases e : b = a
        · rw [if_pos e] at q; cases q
        · rw [if_neg e] at q
          show upd g.Z a o' b = none ∧ _
          rw [upd_ne e]
          exact R.own b j q
      · by_cases e : j = i
        · subst e
          by_cases q : j < st.env.length
          · rw [get_put_same q]; trivial
          · rw [put_ge q]
            have : st.get j = .un := by
              unfold St.get
              rw [List.getD_eq_getElem?_getD, List.getElem?_eq_none (by omega)]
              rfl
            rw [this]
            trivial
        · rw [get_put_ne e]
          refine (R.slot j).mono zz fun b us q1 q2 => ⟨q1, ?_⟩
          show (if b = a then none else g.w b) = some j
          rw [if_neg (fun z => by rw [z, h3] at q2; exact e (Option.some.inj q2).symm)]
          exact q2
      · refine R.src.map fun s0 c0 t hsa k => ?_
        obtain ⟨n1, n2⟩ := h4 s0 c0 hsa
        refine ⟨k.d, k.c, k.ne, ?_, ?_, ?_, ?_⟩
        · show upd g.Z a o' s0 = none
          rw [upd_ne (Ne.symm n1)]; exact k.zs
        · show upd g.Z a o' c0 = none
          rw [upd_ne (Ne.symm n2)]; exact k.zc
        · show (if s0 = a then none else g.w s0) = none
          rw [if_neg (Ne.symm n1)]; exact k.ws
        · show (if c0 = a then none else g.w c0) = none
          rw [if_neg (Ne.symm n2)]; exact k.wc
    have := base.tell (i := i) (x := .dat d) fun _ => ⟨.ref a, e, hd zz⟩
    rw [show (st.put i .un).put i (.dat d) = st.put i (.dat d) by unfold St.put; simp] at this
    exact this
  · show (if b = a then none else g.w b) = none
    by_cases e : b = a
    · rw [if_pos e]
    · rw [if_neg e]; exact n
  · show upd g.Z a o' b = none
    rw [upd_ne (fun e => by rw [e, h3] at n; cases n)]
    exact z
/-- own slot's list is frozen -/
theorem SR.freeze {i : Nat} {xs : List D} (R : SR sa g st σ H) (h : st.get i = .lst xs) : ∃ g' v, SR sa g' (st.put i (.dat (.list xs))) σ H ∧ Ext sa g H g' H ∧ σ[i]? = some (some v) ∧ Dt g'.Z v (.list xs) := by
  have s := R.slot i
  rw [h] at s
  obtain ⟨a, vs, e, h1, h2, h3, h4⟩ := s
  obtain ⟨g', R', E', O'⟩ := R.freezeO (o' := .lst vs) e h1 h3 h4 ⟨fun _ => h1, fun p u q => nomatch q⟩ fun zz => .lst upd_same (dtAllMono zz _ h2)
  exact ⟨g', .ref a, R', E', e, O'⟩
/-- own slot's dict is frozen -/
theorem SR.freezeD {i : Nat} {T : Bool} {kvs : List (D × D)} (R : SR sa g st σ H) (h : st.get i = .dct T kvs) : ∃ g' v, SR sa g' (st.put i (.dat (dctD T kvs))) σ H ∧ Ext sa g H g' H ∧ σ[i]? = some (some v) ∧ Dt g'.Z v (dctD T kvs) := by
  have s := R.slot i
  rw [h] at s
  obtain ⟨a, o, e, h1, h2, h3, h4⟩ := s
  obtain ⟨g', R', E', O'⟩ := R.freezeO (o' := dz o) e h1 h3 h4 ⟨(fun q => absurd (show true = false from q) (by decide)), (fun p u q => by unfold dz at q; cases q; exact ⟨.inl h1, h2.no⟩)⟩ fun zz => (h2.mono zz).dt upd_same
  exact ⟨g', .ref a, R', E', e, O'⟩
theorem SrcOk.keep {s : Option Src} (h : SrcOk sa g H s) (k : ∀ a o, Ntup o → H a = some o → g.Z a = none → g.w a = none → H' a = some o ∧ g'.Z a = none ∧ g'.w a = none) : SrcOk sa g' H' s :=
  h.map fun s0 c0 t _ q => by
    obtain ⟨a1, a2, a3⟩ := k s0 _ ntupK q.d q.zs q.ws
    obtain ⟨b1, b2, b3⟩ := k c0 _ ntupL q.c q.zc q.wc
    exact ⟨a1, b1, q.ne, a2, b2, a3, b3⟩
theorem SrcOk.at {s : Option Src} {s0 c0 : Addr} (h : SrcOk sa g H s) (e : sa = some (s0, c0)) : ∃ t, s = some t ∧ SrcAt s0 c0 t g H := by
  rcases h with ⟨h, _⟩ | ⟨a, b, t, e1, e2, h⟩
  · rw [e] at h; cases h
  · rw [e] at e1; cases e1
    exact ⟨t, e2, h⟩
/-- a new object -/
theorem SR.new {p : Addr} {o : HO} (R : SR sa g st σ H) (hp : H p = none) : SR sa g st σ (upd H p o) ∧ Ext sa g H g (upd H p o) ∧ g.Z p = none ∧ g.w p = none ∧ NotSrc sa p := by
  have ne : ∀ a u, H a = some u → a ≠ p := fun a u e z => by rw [z, hp] at e; cases e
  refine ⟨⟨R.sub.keep fun b q => ?_, fun b j q => ⟨(R.own b j q).1, ?_⟩, R.len, fun j => ?_, ?_⟩, ⟨Same.refl _, fun b u q n _ => ⟨?_, n, fun _ z => z⟩, fun b q => ?_⟩, ?_, ?_, fun s0 c0 e => ?_⟩
  · rw [upd_ne fun e => q (by rw [e]; exact R.sub.free hp)]
  · have q1 := (R.own b j q).2
    rw [upd_ne (fun e => q1.1 (by rw [e]; exact hp))]; exact q1
  · exact (R.slot j).mono (Same.refl _) fun b us q1 q2 => ⟨by rw [upd_ne (ne b _ q1)]; exact q1, q2⟩
  · exact R.src.keep fun a u _ q1 q2 q3 => ⟨by rw [upd_ne (ne a u q1)]; exact q1, q2, q3⟩
  · rw [upd_ne (ne b u q)]; exact q
  · by_cases e : b = p
    · subst e; rw [upd_same]; exact fun z => nomatch z
    · rw [upd_ne e]; exact q
  · exact R.sub.free hp
  · cases q : g.w p with
    | none => rfl
    | some j => exact absurd hp (R.own p j q).2.1
  · obtain ⟨t, _, q⟩ := R.src.at e
    exact ⟨fun z => (by rw [z, q.d] at hp; cases hp), fun z => (by rw [z, q.c] at hp; cases hp)⟩
/-- an object that is nobody's is frozen -/
theorem SR.iceO {p : Addr} {o : HO} (R : SR sa g st σ H) (ho : (isFrz o = false → H p = some o) ∧ ∀ q u, o = .frz q u → L2.Rd H p u ∧ ∀ vs, u ≠ .tup vs) (hw : g.w p = none) (hz : g.Z p = none) (ns : NotSrc sa p) : SR sa ⟨upd g.Z p o, g.w⟩ st σ H ∧ Same g.Z (upd g.Z p o) := by
  have zz : Same g.Z (upd g.Z p o) := fun b u q => by
    rw [upd_ne (fun z => by rw [z, hz] at q; cases q)]; exact q
  refine ⟨⟨fun b u q => ?_, fun b j q => ⟨?_, (R.own b j q).2⟩, R.len, fun j => (R.slot j).mono zz fun b us q1 q2 => ⟨q1, q2⟩, ?_⟩, zz⟩
  · have q : upd g.Z p o b = some u := q
    by_cases e : b = p
    · subst e; rw [upd_same] at q; cases q; exact ho
    · rw [upd_ne e] at q; exact R.sub b u q
  · show upd g.Z p o b = none
    rw [upd_ne (fun e => by subst e; have q : g.w b = some j := q; rw [hw] at q; cases q)]
    exact (R.own b j q).1
  · refine R.src.map fun s0 c0 t hsa k => ?_
    obtain ⟨n1, n2⟩ := ns s0 c0 hsa
    refine ⟨k.d, k.c, k.ne, ?_, ?_, k.ws, k.wc⟩
    · show upd g.Z p o s0 = none
      rw [upd_ne (Ne.symm n1)]; exact k.zs
    · show upd g.Z p o c0 = none
      rw [upd_ne (Ne.symm n2)]; exact k.zc
theorem SR.ice {p : Addr} {o : HO} (R : SR sa g st σ H) (hp : H p = some o) (hw : g.w p = none) (hz : g.Z p = none) (ns : NotSrc sa p) (nf : isFrz o = false := by rfl) : SR sa ⟨upd g.Z p o, g.w⟩ st σ H ∧ Same g.Z (upd g.Z p o) :=
  R.iceO ⟨fun _ => hp, fun q u e => by rw [e] at nf; cases nf⟩ hw hz ns
/-- a new object, frozen at once -/
theorem SR.newIce {p : Addr} {o : HO} (R : SR sa g st σ H) (hp : H p = none) (nf : isFrz o = false := by rfl) : SR sa ⟨upd g.Z p o, g.w⟩ st σ (upd H p o) ∧ Ext sa g H ⟨upd g.Z p o, g.w⟩ (upd H p o) ∧ Same g.Z (upd g.Z p o) := by
  obtain ⟨R1, E1, z, w, ns⟩ := R.new (o := o) hp
  obtain ⟨R2, zz⟩ := R1.ice upd_same w z ns nf
  refine ⟨R2, ⟨zz, fun b u q n s => ?_, E1.there⟩, zz⟩
  obtain ⟨e1, e2, e3⟩ := E1.keep b u q n s
  refine ⟨e1, e2, fun _ z' => ?_⟩
  show upd g.Z p o b = none
  rw [upd_ne (fun e => by rw [e, hp] at q; cases q)]
  exact z'
/-- the object of a slot is changed -/
theorem SR.changeO {i : Nat} {a : Addr} {o : HO} {x : Sl} (R : SR sa g st σ H) (hi : st.get i ≠ .un) (h3 : g.w a = some i) (hx : SlOk sa g (upd H a o) i σ[i]? x) (no : ∀ vs, o ≠ .tup vs) :
    SR sa g (st.put i x) σ (upd H a o) ∧ Ext sa g H g (upd H a o) := by
  obtain ⟨z1, _⟩ := R.own a i h3
  refine ⟨⟨R.sub.keep fun b q => ?_, fun b j q => ⟨(R.own b j q).1, ?_⟩, by rw [put_len]; exact R.len, fun j => ?_, ?_⟩, ⟨Same.refl _, fun b u q n _ => ⟨?_, n, fun _ z => z⟩, fun b q => ?_⟩⟩
  · rw [upd_ne (fun e => q (by rw [e]; exact z1))]
  · by_cases e : b = a
    · subst e; rw [upd_same]; exact ⟨(fun z => nomatch z), fun vs z => no vs (Option.some.inj z)⟩
    · rw [upd_ne e]; exact (R.own b j q).2
  · by_cases e : j = i
    · subst e
      rw [get_put_same (get_lt hi)]
      exact hx
    · rw [get_put_ne e]
      exact (R.slot j).mono (Same.refl _) fun b us q1 q2 => ⟨by rw [upd_ne (fun z => by rw [z, h3] at q2; exact e (Option.some.inj q2).symm)]; exact q1, q2⟩
  · exact R.src.keep fun b u _ q1 q2 q3 => ⟨by rw [upd_ne (fun z => by rw [z, h3] at q3; cases q3)]; exact q1, q2, q3⟩
  · rw [upd_ne (fun z => by rw [z, h3] at n; cases n)]; exact q
  · by_cases e : b = a
    · subst e; rw [upd_same]; exact fun z => nomatch z
    · rw [upd_ne e]; exact q
/-- the list of a slot is changed -/
theorem SR.change {i : Nat} {a : Addr} {xs ys : List D} {ws : List V} (R : SR sa g st σ H) (h : st.get i = .lst xs) (hσ : σ[i]? = some (some (.ref a))) (hw : DtAll g.Z ws ys) :
    SR sa g (st.put i (.lst ys)) σ (upd H a (.lst ws)) ∧ Ext sa g H g (upd H a (.lst ws)) := by
  have s := R.slot i
  rw [h] at s
  obtain ⟨a', vs, e, h1, h2, h3, h4⟩ := s
  rw [hσ] at e
  cases e
  exact R.changeO (by rw [h]; exact fun z => nomatch z) h3 ⟨a, ws, hσ, upd_same, hw, h3, h4⟩ fun _ z => nomatch z
/-- the dict of a slot is changed -/
theorem SR.changeD {i : Nat} {a : Addr} {T : Bool} {kvs kvs' : List (D × D)} {o : HO} (R : SR sa g st σ H) (h : st.get i = .dct T kvs) (hσ : σ[i]? = some (some (.ref a))) (hw : DkOk g.Z T o kvs') :
    SR sa g (st.put i (.dct T kvs')) σ (upd H a o) ∧ Ext sa g H g (upd H a o) := by
  have s := R.slot i
  rw [h] at s
  obtain ⟨a', vs, e, h1, h2, h3, h4⟩ := s
  rw [hσ] at e
  cases e
  exact R.changeO (by rw [h]; exact fun z => nomatch z) h3 ⟨a, o, hσ, upd_same, hw, h3, h4⟩ hw.no
/-- a new list becomes a slot's own -/
theorem SR.adoptO {i : Nat} {p : Addr} {o : HO} {x : Sl} (R : SR sa g st σ H) (h1 : H p = some o) (h3 : g.Z p = none) (h4 : g.w p = none) (h5 : NotSrc sa p)
    (hx : SlOk sa ⟨g.Z, fun b => if b = p then some i else g.w b⟩ H i (some (some (.ref p))) x) (no : ∀ vs, o ≠ .tup vs) :
    SR sa ⟨g.Z, fun b => if b = p then some i else g.w b⟩ (st.put i x) (σ.set i (some (.ref p))) H := by
  have R1 : SR sa ⟨g.Z, fun b => if b = p then some i else g.w b⟩ (st.put i .un) σ H := by
    refine ⟨R.sub, fun b j q => ?_, by rw [put_len]; exact R.len, fun j => ?_, ?_⟩
    · have q : (if b = p then some i else g.w b) = some j := q
      by_cases e : b = p
      · subst e
        exact ⟨h3, by rw [h1]; exact ⟨(fun z => nomatch z), fun vs z => no vs (Option.some.inj z)⟩⟩
      · rw [if_neg e] at q
        exact R.own b j q
    · by_cases e : j = i
      · subst e
        have t := R.unAt j
        have := t.slot j
        by_cases q : j < st.env.length
        · rw [get_put_same q]; trivial
        · rw [put_ge q]
          have : st.get j = .un := by
            unfold St.get
            rw [List.getD_eq_getElem?_getD, List.getElem?_eq_none (by omega)]
            rfl
          rw [this]
          trivial
      · rw [get_put_ne e]
        refine (R.slot j).mono (Same.refl _) fun b us q1 q2 => ⟨q1, ?_⟩
        show (if b = p then some i else g.w b) = some j
        rw [if_neg (fun z => by rw [z, h4] at q2; cases q2)]
        exact q2
    · refine R.src.map fun s0 c0 t hsa k => ?_
      obtain ⟨n1, n2⟩ := h5 s0 c0 hsa
      refine ⟨k.d, k.c, k.ne, k.zs, k.zc, ?_, ?_⟩
      · show (if s0 = p then some i else g.w s0) = none
        rw [if_neg (Ne.symm n1)]; exact k.ws
      · show (if c0 = p then some i else g.w c0) = none
        rw [if_neg (Ne.symm n2)]; exact k.wc
  have := R1.put (i := i) (x := x) (o := some (.ref p)) hx
  rw [show (st.put i .un).put i x = st.put i x by unfold St.put; simp] at this
  exact this
theorem SR.adopt {i : Nat} {p : Addr} {xs : List D} {vs : List V} (R : SR sa g st σ H) (h1 : H p = some (.lst vs)) (h2 : DtAll g.Z vs xs) (h3 : g.Z p = none) (h4 : g.w p = none) (h5 : NotSrc sa p) :
    SR sa ⟨g.Z, fun b => if b = p then some i else g.w b⟩ (st.put i (.lst xs)) (σ.set i (some (.ref p))) H := R.adoptO h1 h3 h4 h5 ⟨p, vs, rfl, h1, h2, if_pos rfl, h5⟩ fun _ z => nomatch z
theorem SR.adoptD {i : Nat} {p : Addr} {T : Bool} {kvs : List (D × D)} {o : HO} (R : SR sa g st σ H) (h1 : H p = some o) (h2 : DkOk g.Z T o kvs) (h3 : g.Z p = none) (h4 : g.w p = none) (h5 : NotSrc sa p) :
    SR sa ⟨g.Z, fun b => if b = p then some i else g.w b⟩ (st.put i (.dct T kvs)) (σ.set i (some (.ref p))) H := R.adoptO h1 h3 h4 h5 ⟨p, o, rfl, h1, h2, if_pos rfl, h5⟩ h2.no
end
end Pf

set_option maxRecDepth 100000
/-! Pf2d: dicts: entries by keys. -/
namespace Pf
open PySem PySem.Spec PyProof.Rows
open L2 (V Hp HO upd upd_same upd_ne Same SqL SqT Dp DpAll Key Vals Rd DGet DPut valV putK kV)
theorem eqv_key (a b : Key) : PyData.eqv (keyD a) (keyD b) = decide (a = b) := by
  cases a <;> cases b <;> simp [keyD, PyData.eqv]
  · rename_i x y
    by_cases h : x = y
    · simp [h]
    · simp [h]
  · rename_i x y
    by_cases h : x = y
    · simp [h]
    · simp [h]
theorem eqv_keyAll : ∀ a b : List Key, PyData.eqvAll (a.map keyD) (b.map keyD) = decide (a = b)
  | [], [] => rfl
  | [], _ :: _ => rfl
  | _ :: _, [] => rfl
  | x :: xs, y :: ys => by
    simp only [List.map_cons, PyData.eqvAll, eqv_key, eqv_keyAll xs ys]
    by_cases h : x = y
    · subst h; simp
    · simp [h]
theorem eqv_keys (a b : List Key) : PyData.eqv (keysD a) (keysD b) = decide (a = b) := by
  simp only [keysD, PyData.eqv, eqv_keyAll]
section
variable {Z : Hp} {κ : Type} [DecidableEq κ] {kd : κ → D}
/-- the same entry on both sides -/
theorem find_both (hk : ∀ a b, PyData.eqv (kd a) (kd b) = decide (a = b)) (k : κ) : ∀ {kvs : List (κ × V)} {es : List D}, DtAll Z (kvs.map Prod.snd) es →
    (∃ v d, valV kvs k = some v ∧ dfind ((kvs.map fun p => kd p.1).zip es) (kd k) = some d ∧ Dt Z v d) ∨ (valV kvs k = none ∧ dfind ((kvs.map fun p => kd p.1).zip es) (kd k) = none)
  | [], _, h => by
    cases h
    exact .inr ⟨rfl, rfl⟩
  | (j, v) :: kvs, _, h => by
    cases h with
    | @cons _ _ d ds h1 h2 =>
      by_cases e : j = k
      · subst e
        refine .inl ⟨v, d, L2.valV_pos rfl, ?_, h1⟩
        simp [dfind, hk]
      · rw [L2.valV_neg (by exact e)]
        have : dfind ((((j, v) :: kvs).map fun p => kd p.1).zip (d :: ds)) (kd k) = dfind ((kvs.map fun p => kd p.1).zip ds) (kd k) := by
          simp [dfind, hk, e]
        rw [this]
        exact find_both hk k h2
theorem any_both (hk : ∀ a b, PyData.eqv (kd a) (kd b) = decide (a = b)) (k : κ) : ∀ {kvs : List (κ × V)} {es : List D}, DtAll Z (kvs.map Prod.snd) es →
    (((kvs.map fun p => kd p.1).zip es).any fun p => PyData.eqv p.1 (kd k)) = (valV kvs k).isSome
  | [], _, h => by cases h; rfl
  | (j, v) :: kvs, _, h => by
    cases h with
    | @cons _ _ d ds h1 h2 =>
      by_cases e : j = k
      · subst e
        rw [L2.valV_pos rfl]
        simp [hk]
      · rw [L2.valV_neg (by exact e), ← any_both hk k h2]
        simp [hk, e]
theorem len_both : ∀ {kvs : List (κ × V)} {es : List D}, DtAll Z (kvs.map Prod.snd) es → ((kvs.map fun p => kd p.1).zip es).length = kvs.length := fun {kvs es} h => by
  have := h.len
  rw [List.length_map] at this
  rw [List.length_zip, List.length_map, ← this, Nat.min_self]
theorem map_snd_repl (k : κ) (v : V) : ∀ {kvs : List (κ × V)} {es : List D} {d : D}, (∀ a b, PyData.eqv (kd a) (kd b) = decide (a = b)) → DtAll Z (kvs.map Prod.snd) es → Dt Z v d →
    ∃ es', DtAll Z ((kvs.map fun kv => if kv.1 = k then (kv.1, v) else kv).map Prod.snd) es' ∧
      ((kvs.map fun p => kd p.1).zip es).map (fun p => if PyData.eqv p.1 (kd k) then (p.1, d) else p) = ((kvs.map fun kv => if kv.1 = k then (kv.1, v) else kv).map fun p => kd p.1).zip es'
  | [], _, _, _, h, _ => by cases h; exact ⟨[], .nil, rfl⟩
  | (j, w) :: kvs, _, d, hk, h, hd => by
    cases h with
    | @cons _ _ e es h1 h2 =>
      obtain ⟨es', q1, q2⟩ := map_snd_repl k v hk h2 hd
      by_cases c : j = k
      · subst c
        refine ⟨d :: es', by simpa using DtAll.cons hd q1, ?_⟩
        simp only [List.map_cons, List.zip_cons_cons, hk, decide_true, if_true]
        rw [q2]
      · refine ⟨e :: es', by simpa [c] using DtAll.cons h1 q1, ?_⟩
        simp only [List.map_cons, List.zip_cons_cons, hk, c, decide_false, Bool.false_eq_true, if_false]
        rw [q2]
/-- an entry is stored on both sides -/
theorem put_both (hk : ∀ a b, PyData.eqv (kd a) (kd b) = decide (a = b)) {kvs : List (κ × V)} {es : List D} {k : κ} {v : V} {d : D} (h : DtAll Z (kvs.map Prod.snd) es) (hd : Dt Z v d) :
    ∃ es', DtAll Z ((putK kvs k v).map Prod.snd) es' ∧ dput ((kvs.map fun p => kd p.1).zip es) (kd k) d = ((putK kvs k v).map fun p => kd p.1).zip es' := by
  unfold dput putK
  rw [any_both hk k h, L2.valV_any]
  cases hs : (valV kvs k).isSome with
  | true =>
    simp only [if_true]
    exact map_snd_repl k v hk h hd
  | false =>
    simp only [Bool.false_eq_true, if_false]
    refine ⟨es ++ [d], ?_, ?_⟩
    · rw [List.map_append]
      exact h.append (.cons hd .nil)
    · rw [List.map_append, List.zip_append (by have := h.len; simpa using this)]
      rfl
end
section
variable {Z H : Hp} {a : Addr} {T : Bool} {o : HO} {kvs : List (D × D)} {y : V} {d : D}
/-- a key as a value -/
theorem key_dt {Z : Hp} {y : V} {d : D} (h : Dt Z y d) (k : leafK d = true) : ∃ q : Key, d = keyD q ∧ y = kV q := by
  cases h with
  | int i => exact ⟨.inl i, rfl, rfl⟩
  | str x => exact ⟨.inr x, rfl, rfl⟩
  | _ => first | (cases k; done) | (simp [dctD, leafK] at k)
theorem keys_dt : ∀ {vs : List V} {ds : List D}, DtAll Z vs ds → ds.all leafK = true → ∃ ks : List Key, ds = ks.map keyD ∧ vs = ks.map kV
  | _, _, .nil, _ => ⟨[], rfl, rfl⟩
  | _, _, .cons h1 h2, k => by
    simp only [List.all_cons, Bool.and_eq_true] at k
    obtain ⟨q, rfl, rfl⟩ := key_dt h1 k.1
    obtain ⟨ks, rfl, rfl⟩ := keys_dt h2 k.2
    exact ⟨q :: ks, rfl, rfl⟩
/-- what stands at a key -/
theorem dget_of (S : Sub Z H) (h : DkOk Z T o kvs) (r : Rd H a o) (hy : Dt Z y d) (k : keyOk T d = true) :
    ∃ r, DGet H a y r ∧ ((∃ v e, r = some v ∧ dfind kvs d = some e ∧ Dt Z v e) ∨ (r = none ∧ dfind kvs d = none)) ∧ (kvs.any fun p => PyData.eqv p.1 d) = r.isSome := by
  cases h with
  | @k kvs es h =>
    obtain ⟨q, rfl, rfl⟩ := key_dt hy k
    refine ⟨valV kvs q, .inl ⟨kvs, q, r, rfl, rfl⟩, ?_, any_both eqv_key q h⟩
    rcases find_both eqv_key q h with ⟨v, e, e1, e2, e3⟩ | ⟨e1, e2⟩
    · exact .inl ⟨v, e, e1, e2, e3⟩
    · exact .inr ⟨e1, e2⟩
  | @t kvs es h =>
    cases hy with
    | tup h1 h2 =>
      obtain ⟨ks, rfl, rfl⟩ := keys_dt h2 (by simpa [keyOk] using k)
      refine ⟨valV kvs ks, .inr ⟨kvs, ks, _, r, rfl, S.at h1, rfl⟩, ?_, any_both (kd := keysD) eqv_keys ks h⟩
      rcases find_both (kd := keysD) eqv_keys ks h with ⟨v, e, e1, e2, e3⟩ | ⟨e1, e2⟩
      · exact .inl ⟨v, e, e1, e2, e3⟩
      · exact .inr ⟨e1, e2⟩
    | _ => first | (cases k; done) | (simp [dctD, keyOk] at k)
/-- an entry is stored -/
theorem dput_of (S : Sub Z H) (h : DkOk Z T o kvs) (r : H a = some o) (hy : Dt Z y d) (k : keyOk T d = true) (hl : kvs.length < sizeLine) {v : V} {e : D} (hv : Dt Z v e) :
    ∃ o', DPut H a y v (upd H a o') ∧ DkOk Z T o' (dput kvs d e) := by
  cases h with
  | @k kvs es h =>
    obtain ⟨q, rfl, rfl⟩ := key_dt hy k
    obtain ⟨es', q1, q2⟩ := put_both eqv_key (k := q) h hv
    refine ⟨.dK (putK kvs q v), .inl ⟨kvs, q, r, rfl, by rw [len_both h] at hl; exact hl, rfl⟩, ?_⟩
    rw [q2]
    exact .k q1
  | @t kvs es h =>
    cases hy with
    | tup h1 h2 =>
      obtain ⟨ks, rfl, rfl⟩ := keys_dt h2 (by simpa [keyOk] using k)
      obtain ⟨es', q1, q2⟩ := put_both (kd := keysD) eqv_keys (k := ks) h hv
      refine ⟨.dT (putK kvs ks v), .inr ⟨kvs, ks, _, r, rfl, S.at h1, by rw [len_both h] at hl; exact hl, rfl⟩, ?_⟩
      show DkOk Z true _ (dput _ (keysD ks) e)
      rw [q2]
      exact .t q1
    | _ => first | (cases k; done) | (simp [dctD, keyOk] at k)
theorem dctOf_is {d : D} {q : Bool × List (D × D)} (h : dctOf d = some q) : d = dctD q.1 q.2 := by
  unfold dctOf at h
  split at h
  · cases h; rfl
  · cases h
/-- frozen data that is a dict -/
theorem dct_dt {Z : Hp} {v : V} {T : Bool} {kvs : List (D × D)} (h : Dt Z v (dctD T kvs)) : ∃ a o, v = .ref a ∧ Z a = some (dz o) ∧ DkOk Z T o kvs := by
  generalize e : dctD T kvs = d at h
  cases h <;> simp only [dctD, reduceCtorEq, PyData.dict.injEq, List.cons.injEq, Prod.mk.injEq, PyData.bool.injEq, and_true] at e
  · obtain ⟨rfl, rfl⟩ := e
    exact ⟨_, _, rfl, by assumption, .k (by assumption)⟩
  · obtain ⟨rfl, rfl⟩ := e
    exact ⟨_, _, rfl, by assumption, .t (by assumption)⟩
end
end Pf

set_option maxRecDepth 100000
set_option maxHeartbeats 4000000
/-! Pf3a: tuple * int for few or no turns; in, not in of a tuple by data. -/
namespace L2
open PySem PySem.Spec PyProof.Rows
theorem tuple_mul_same (l : Addr) (items : Array Value) (n : Nat) (dd : Option Addr) (sl : Array (Option Value)) (x : Int) (u : Tok) (c0 : (decide (x < -(2 ^ 63)) || decide (x ≥ 2 ^ 63)) = false) (c1 : (items.isEmpty || x == 1) = true) :
    Meets (Builtin.«tuple.__mul__» ⟨[.ref l, .int x u], []⟩) (fun _ R s => s.heap.get? l = some { cls := .type "tuple", dict := dd, data := .seq items n, slots := sl } ∧
      R (.ok (.ret (Value.ref l))) s) :=
  .of_wp fun prog w A R s h => by
    obtain ⟨hp, g, d, tk, os⟩ := s
    obtain ⟨hl, h⟩ := h
    have f1 := AutoSeq1.idx_int
    wp_walk using wpAny_loadPart' hl
    repeat (first
      | (refine wpAny_ite_false (decide_eq_false (by rw [c0]; exact Bool.false_ne_true)) ?_; wp_walk using wpAny_loadPart' hl)
      | (refine wpAny_ite_true (decide_eq_true (by rw [c1])) ?_; wp_walk using wpAny_loadPart' hl))
    exact ⟨_, rfl, h⟩
theorem tuple_mul_none (l : Addr) (items : Array Value) (n : Nat) (dd : Option Addr) (sl : Array (Option Value)) (x : Int) (u : Tok) (c0 : (decide (x < -(2 ^ 63)) || decide (x ≥ 2 ^ 63)) = false) (c1 : (items.isEmpty || x == 1) = false) (c2 : (decide (x ≤ 0) || items.isEmpty) = true) :
    Meets (Builtin.«tuple.__mul__» ⟨[.ref l, .int x u], []⟩) (fun _ R s => s.heap.get? l = some { cls := .type "tuple", dict := dd, data := .seq items n, slots := sl } ∧
      R (.ok (.ret (Value.ref s.heap.objs.size))) { s with heap := s.heap.push { cls := Value.type "tuple", data := Data.seq #[] }, toks := s.toks }) :=
  .of_wp fun prog w A R s h => by
    obtain ⟨hp, g, d, tk, os⟩ := s
    obtain ⟨hl, h⟩ := h
    have f1 := AutoSeq1.idx_int
    wp_walk using wpAny_loadPart' hl
    repeat (first
      | (refine wpAny_ite_false (decide_eq_false (by rw [c0]; exact Bool.false_ne_true)) ?_; wp_walk using wpAny_loadPart' hl)
      | (refine wpAny_ite_false (decide_eq_false (by rw [c1]; exact Bool.false_ne_true)) ?_; wp_walk using wpAny_loadPart' hl)
      | (refine wpAny_ite_true (decide_eq_true (by rw [c2])) ?_; wp_walk using wpAny_loadPart' hl))
    exact ⟨_, rfl, h⟩
/-- t * k, k below 1001 -/
def rRepTA (K : PySem.W.Frag) : R2 := fun x y H Q => ∃ l k xs, x = .ref l ∧ y = .int k ∧ SqT K H l xs ∧ -(2 ^ 62) ≤ k ∧ k ≤ 1000 ∧ xs.length ≤ 1000 ∧
  ((xs = [] ∨ k = 1) → Q (.ref l) H) ∧ (∀ p, H p = none → Q (.ref p) (upd H p (.tup (List.replicate k.toNat xs).flatten)))
theorem op_repTA {X : Cx} : OpR X (binaryOp .Mult) (rRepTA X.K) := by
  intro pins s σ H x y v u Q I rx ry h
  obtain ⟨l, k, xs, rfl, rfl, hT, h0, h2, hz, q1, q2⟩ := h
  by_cases c : xs = [] ∨ k = 1
  · cases rx
    obtain ⟨t, rfl⟩ := ry
    obtain ⟨its, r, ⟨⟨cls, dd, data, sl⟩, ho, hc, n, hd⟩, hs⟩ := I.tuple hT
    simp only at hc hd
    subst hc hd
    have c0 : (decide (k < -(2 ^ 63)) || decide (k ≥ 2 ^ 63)) = false := by
      rw [decide_eq_false (by omega), decide_eq_false (by omega)] <;> rfl
    have c1 : (its.toArray.isEmpty || k == 1) = true := by
      rcases c with c | c
      · subst c
        cases r
        rfl
      · subst c
        simp
    exact wpAny_binaryOp_repeat_ref (T := "tuple") (U := "int") (by decide) ⟨_, ho, rfl⟩ (fun s' => typeIs_int s' k t) noFill_tuple_mul F.fills_int_mul F.slot_int_rmul repeat_tuple F.slot_int_index.lookup
      (call_meets F.slot_int_rmul (typeIs_int s k t) F.entry_int_rmul (F.args_int_rmul_2 _ _) (int_rmul_tuple k t l its.toArray n dd sl)
        ⟨ho, rfl, ⟨_, ho, rfl⟩, call_meets F.slot_tuple_mul ⟨_, ho, rfl⟩ F.entry_tuple_mul (F.args_tuple_mul_2 _ _) (tuple_mul_same l its.toArray n dd sl k t c0 c1) ⟨ho, ⟨.ref l, H, I, rfl, q1 c⟩⟩⟩)
  · have cx : xs ≠ [] := fun e => c (.inl e)
    have ck : k ≠ 1 := fun e => c (.inr e)
    by_cases hk : 2 ≤ k
    · exact op_repT pins s σ H _ _ v u Q I rx ry ⟨l, k, xs, rfl, rfl, hT, cx, hk, h2, hz, q2⟩
    · cases rx
      obtain ⟨t, rfl⟩ := ry
      obtain ⟨its, r, ⟨⟨cls, dd, data, sl⟩, ho, hc, n, hd⟩, hs⟩ := I.tuple hT
      simp only at hc hd
      subst hc hd
      have hn : its ≠ [] := fun e => cx (by subst e; cases r; rfl)
      have hi : its.toArray.isEmpty = false := by
        cases its with
        | nil => exact absurd rfl hn
        | cons a b => rfl
      have c0 : (decide (k < -(2 ^ 63)) || decide (k ≥ 2 ^ 63)) = false := by
        rw [decide_eq_false (by omega), decide_eq_false (by omega)] <;> rfl
      have c1 : (its.toArray.isEmpty || k == 1) = false := by
        rw [hi, Bool.false_or]
        exact beq_eq_false_iff_ne.mpr ck
      have c2 : (decide (k ≤ 0) || its.toArray.isEmpty) = true := by
        rw [decide_eq_true (by omega)]
        rfl
      have e0 : k.toNat = 0 := by omega
      rw [e0] at q2
      refine wpAny_binaryOp_repeat_ref (T := "tuple") (U := "int") (by decide) ⟨_, ho, rfl⟩ (fun s' => typeIs_int s' k t) noFill_tuple_mul F.fills_int_mul F.slot_int_rmul repeat_tuple F.slot_int_index.lookup
        (call_meets F.slot_int_rmul (typeIs_int s k t) F.entry_int_rmul (F.args_int_rmul_2 _ _) (int_rmul_tuple k t l its.toArray n dd sl)
          ⟨ho, rfl, ⟨_, ho, rfl⟩, call_meets F.slot_tuple_mul ⟨_, ho, rfl⟩ F.entry_tuple_mul (F.args_tuple_mul_2 _ _) (tuple_mul_none l its.toArray n dd sl k t c0 c1 c2) ⟨ho, ?_⟩⟩)
      refine ⟨.ref s.heap.objs.size, _, I.laid (t' := s.toks) (o := .tup (List.replicate 0 xs).flatten) (fun b ob q => Heap.get?_push_of_some _ q) (Nat.le_refl _) ?_, rfl, q2 _ (I.hok.fresh (Nat.le_refl _))⟩
      exact ⟨Nat.zero_le _, [], .nil, IsTup.new _ _⟩
def rInT (K : PySem.W.Frag) (neg : Bool) : R2 := fun x y H Q => ∃ d ds, Dp K H x d ∧ Dp K H y (.tuple ds) ∧ SeqAt.shaped d = true ∧ SeqAt.shaped (.tuple ds) = true ∧ Q (.bl (if neg then !(ds.any fun z => PyData.eqv z d) else ds.any fun z => PyData.eqv z d)) H
theorem op_inT {X : Cx} (hu : X.A.units + 65 < cLine) : OpR X (compareOp .In) (rInT X.K false) := by
  intro pins s σ H x y v u Q I rx ry h
  obtain ⟨d, ds, hd, he, sd, se, q⟩ := h
  obtain ⟨as, r1⟩ := Dp.reads I d x v hd rx
  obtain ⟨bs, r2⟩ := Dp.reads I (.tuple ds) y u he ry
  exact SeqAt.in_tuple_reads r2 r1 (SeqAt.canLay_of_shaped se) (SeqAt.canLay_of_shaped sd) (room_in_shaped sd hu) ⟨.bl _, H, I, rfl, q⟩
theorem op_notInT {X : Cx} (hu : X.A.units + 65 < cLine) : OpR X (compareOp .NotIn) (rInT X.K true) := by
  intro pins s σ H x y v u Q I rx ry h
  obtain ⟨d, ds, hd, he, sd, se, q⟩ := h
  obtain ⟨as, r1⟩ := Dp.reads I d x v hd rx
  obtain ⟨bs, r2⟩ := Dp.reads I (.tuple ds) y u he ry
  exact SeqAt.notIn_tuple_reads r2 r1 (SeqAt.canLay_of_shaped se) (SeqAt.canLay_of_shaped sd) (room_in_shaped sd hu) ⟨.bl _, H, I, rfl, q⟩
end L2

set_option maxRecDepth 100000
/-! Pf3: operators by data. -/
namespace Pf
open PySem PySem.Spec PyProof.Rows
open L2 (V Hp HO upd upd_same upd_ne Same SqL SqT Dp DpAll Key Vals Cx Inv OpR R2 VK PE PT TE TT RelV rI rI0 rU UnR CMul EP)

/-- a value that is read: frozen data, or a list (perhaps a slot's own) of frozen data -/
def Vw (g : Gh) (H : Hp) (x : V) (d : D) : Prop :=
  Dt g.Z x d ∨ (∃ a vs ds, x = .ref a ∧ d = .list ds ∧ H a = some (.lst vs) ∧ DtAll g.Z vs ds) ∨ ∃ a o T kvs, x = .ref a ∧ d = dctD T kvs ∧ H a = some o ∧ DkOk g.Z T o kvs
section
variable {sa : SA} {g g' : Gh} {st : St} {σ : L2.St} {H H' H0 : Hp} {x : V} {d : D}
theorem Vw.dp {K : PySem.W.Frag} {k : Nat} (h : Vw g H x d) (R : Sub g.Z H) (o : okD k d = true) : Dp K H x d := by
  rcases h with h | ⟨a, vs, ds, rfl, rfl, h1, h2⟩ | ⟨a, ob, T, kvs, rfl, rfl, h1, h2⟩
  · exact Dt.dp R o h
  · exact .lst (SqL.of h1) (DtAll.dp R (k := k - 1) (by cases k with | zero => simp [okD] at o | succ k => simpa [okD] using o) h2)
  · cases k <;> simp [okD, dctD] at o
theorem Vw.dct {T : Bool} {kvs : List (D × D)} (h : Vw g H x (dctD T kvs)) (R : Sub g.Z H) : ∃ a o, x = .ref a ∧ L2.Rd H a o ∧ DkOk g.Z T o kvs := by
  rcases h with h | ⟨a, vs, ds, rfl, e, h1, h2⟩ | ⟨a, ob, T', kvs', rfl, e, h1, h2⟩
  · obtain ⟨a, o, rfl, h1, h2⟩ := dct_dt h
    exact ⟨a, o, rfl, R.rd h1, h2⟩
  · cases e
  · simp only [dctD, PyData.dict.injEq, List.cons.injEq, Prod.mk.injEq, PyData.bool.injEq, and_true] at e
    obtain ⟨rfl, rfl⟩ := e
    exact ⟨a, ob, rfl, .inl h1, h2⟩
/-- a key that is read is frozen -/
theorem Vw.key {T : Bool} (h : Vw g H x d) (k : keyOk T d = true) : Dt g.Z x d := by
  rcases h with h | ⟨a, vs, ds, rfl, rfl, h1, h2⟩ | ⟨a, ob, T', kvs', rfl, rfl, h1, h2⟩
  · exact h
  · cases T <;> cases k
  · cases T <;> cases k
theorem Vw.int {i : Int} (h : Vw g H x (.int i)) : x = .int i := by
  rcases h with h | ⟨a, vs, ds, rfl, e, h1, h2⟩ | ⟨a, ob, T, kvs, rfl, e, h1, h2⟩
  · cases h; rfl
  · cases e
  · cases e
theorem Vw.bool {i : Bool} (h : Vw g H x (.bool i)) : x = .bl i := by
  rcases h with h | ⟨a, vs, ds, rfl, e, h1, h2⟩ | ⟨a, ob, T, kvs, rfl, e, h1, h2⟩
  · cases h; rfl
  · cases e
  · cases e
theorem Vw.str {i : Str} (h : Vw g H x (.str i)) : x = .str i := by
  rcases h with h | ⟨a, vs, ds, rfl, e, h1, h2⟩ | ⟨a, ob, T, kvs, rfl, e, h1, h2⟩
  · cases h; rfl
  · cases e
  · cases e
theorem Vw.none (h : Vw g H x .none) : x = .non := by
  rcases h with h | ⟨a, vs, ds, rfl, e, h1, h2⟩ | ⟨a, ob, T, kvs, rfl, e, h1, h2⟩
  · cases h; rfl
  · cases e
  · cases e
theorem Vw.tup {ds : List D} (h : Vw g H x (.tuple ds)) : ∃ a vs, x = .ref a ∧ g.Z a = some (.tup vs) ∧ DtAll g.Z vs ds := by
  rcases h with h | ⟨a, vs, ds, rfl, e, h1, h2⟩ | ⟨a, ob, T, kvs, rfl, e, h1, h2⟩
  · cases h with
    | tup h1 h2 => exact ⟨_, _, rfl, h1, h2⟩
  · cases e
  · cases e
theorem Vw.lst {ds : List D} (h : Vw g H x (.list ds)) (R : Sub g.Z H) : ∃ a vs, x = .ref a ∧ H a = some (.lst vs) ∧ DtAll g.Z vs ds := by
  rcases h with h | ⟨a, vs, ds, rfl, e, h1, h2⟩ | ⟨a, ob, T, kvs, rfl, e, h1, h2⟩
  · cases h with
    | lst h1 h2 => exact ⟨_, _, rfl, R.at h1, h2⟩
  · cases e
    exact ⟨_, _, rfl, h1, h2⟩
  · cases e
/-- a result as it is read -/
theorem RvOk.vw {v : V} {r : Rv} (R : SR sa g st σ H) (h : RvOk sa H0 g σ H v r) (e : res st r = some d) : Vw g H v d := by
  cases r with
  | dat d' =>
    simp only [res, Option.some.injEq] at e
    subst e
    exact .inl h
  | src => cases e
  | view i =>
    have s := R.slot i
    have h : σ[i]? = some (some v) := h
    simp only [res] at e
    cases q : st.get i with
    | un => rw [q] at e; cases e
    | src => rw [q] at e; cases e
    | dat d' =>
      rw [q] at e s
      cases e
      obtain ⟨v', e1, r⟩ := s
      rw [h] at e1
      cases e1
      exact .inl r
    | lst xs =>
      rw [q] at e s
      cases e
      obtain ⟨a, vs, e1, h1, h2, _⟩ := s
      rw [h] at e1
      cases e1
      exact .inr (.inl ⟨a, vs, xs, rfl, rfl, h1, h2⟩)
    | dct T kvs =>
      rw [q] at e s
      cases e
      obtain ⟨a, o, e1, h1, h2, _⟩ := s
      rw [h] at e1
      cases e1
      exact .inr (.inr ⟨a, o, T, kvs, rfl, rfl, h1, h2⟩)
  | lst xs =>
    simp only [res, Option.some.injEq] at e
    subst e
    obtain ⟨p, vs, rfl, _, h1, h2, _⟩ := h
    exact .inr (.inl ⟨p, vs, xs, rfl, rfl, h1, h2⟩)
  | dct T kvs =>
    simp only [res, Option.some.injEq] at e
    subst e
    obtain ⟨p, o, rfl, _, h1, h2, _⟩ := h
    exact .inr (.inr ⟨p, o, T, kvs, rfl, rfl, h1, h2⟩)
end

/-! ### reads as data -/
mutual
theorem okD_shaped : ∀ (k : Nat) (d : D), okD k d = true → d.canLay0 = true ∧ d.depth ≤ k
  | k, .none, _ => ⟨by simp [PyData.canLay0], by simp [PyData.depth]⟩
  | k, .bool _, _ => ⟨by simp [PyData.canLay0], by simp [PyData.depth]⟩
  | k, .int _, _ => ⟨by simp [PyData.canLay0], by simp [PyData.depth]⟩
  | k, .str x, h => ⟨by
      have : PyData.strOk x = true := by cases k <;> exact h
      simp [PyData.canLay0, this], by simp [PyData.depth]⟩
  | 0, .list _, h => by simp [okD] at h
  | 0, .tuple _, h => by simp [okD] at h
  | k + 1, .list xs, h => by
    obtain ⟨h1, h2⟩ := okD_all k xs (by simpa [okD] using h)
    exact ⟨by simp [PyData.canLay0, h1], by simp only [PyData.depth]; omega⟩
  | k + 1, .tuple xs, h => by
    obtain ⟨h1, h2⟩ := okD_all k xs (by simpa [okD] using h)
    exact ⟨by simp [PyData.canLay0, h1], by simp only [PyData.depth]; omega⟩
  | k, .dict _, h => by cases k <;> simp [okD] at h
theorem okD_all : ∀ (k : Nat) (ds : List D), (∀ d ∈ ds, okD k d = true) → PyData.canLayAll0 ds = true ∧ PyData.depthAll ds ≤ k
  | k, [], _ => ⟨by simp [PyData.canLayAll0], by simp [PyData.depthAll]⟩
  | k, d :: ds, h => by
    obtain ⟨h1, h2⟩ := okD_shaped k d (h d (by simp))
    obtain ⟨h3, h4⟩ := okD_all k ds fun x hx => h x (by simp [hx])
    exact ⟨by simp [PyData.canLayAll0, h1, h3], by simp only [PyData.depthAll]; omega⟩
end
theorem shaped_of {k : Nat} {d : D} (hk : k ≤ 64) (h : okD k d = true) : SeqAt.shaped d = true := by
  obtain ⟨h1, h2⟩ := okD_shaped k d h
  unfold SeqAt.shaped
  rw [h1, decide_eq_true (by omega)]
  rfl

/-! ### the operators' readings -/
abbrev Post (sa : SA) (g : Gh) (st : St) (σ : L2.St) (H : Hp) (r : Rv) (Q : VK) : Prop :=
  ∀ v g' H', SR sa g' st σ H' → Ext sa g H g' H' → RvOk sa H g' σ H' v r → Q v H'
/-- a two-place rule serves an operator of the core -/
def Serves (o : Op2) (r2 : R2) : Prop :=
  ∀ {sa : SA} {g : Gh} {st : St} {σ : L2.St} {H : Hp} {x y : V} {dx dy : D} {r : Rv} {Q : VK}, SR sa g st σ H → Vw g H x dx → Vw g H y dy → evOp2 o dx dy = some r → Post sa g st σ H r Q → r2 x y H Q

section
variable {sa : SA} {g g' : Gh} {st : St} {σ : L2.St} {H H' H0 : Hp} {x y : V} {dx dy : D} {r : Rv} {Q : VK}
theorem post_int {i : Int} (R : SR sa g st σ H) (h : Post sa g st σ H (.dat (.int i)) Q) : Q (.int i) H := h _ g H R .refl (.int i)
theorem post_bool {i : Bool} (R : SR sa g st σ H) (h : Post sa g st σ H (.dat (.bool i)) Q) : Q (.bl i) H := h _ g H R .refl (.bl i)
theorem post_dat {v : V} {d : D} (R : SR sa g st σ H) (hv : Dt g.Z v d) (h : Post sa g st σ H (.dat d) Q) : Q v H := h _ g H R .refl hv
/-- a new tuple of frozen items -/
theorem post_tup {p : Addr} {vs : List V} {ds : List D} (R : SR sa g st σ H) (hv : DtAll g.Z vs ds) (hp : H p = none) (h : Post sa g st σ H (.dat (.tuple ds)) Q) : Q (.ref p) (upd H p (.tup vs)) := by
  obtain ⟨R1, E1, zz⟩ := R.newIce (o := .tup vs) hp
  exact h _ _ _ R1 E1 (.tup upd_same (dtAllMono zz _ hv))
/-- a new list of frozen items -/
theorem post_lst {p : Addr} {vs : List V} {ds : List D} (R : SR sa g st σ H) (hv : DtAll g.Z vs ds) (hp : H p = none) (h : Post sa g st σ H (.lst ds) Q) : Q (.ref p) (upd H p (.lst vs)) := by
  obtain ⟨R1, E1, z, w, ns⟩ := R.new (o := .lst vs) hp
  exact h _ _ _ R1 E1 ⟨p, vs, rfl, hp, upd_same, hv, z, w, ns⟩
theorem CMul.of {i j : Int} (h : (smallI i || smallI j) = true) : CMul i j := by
  rcases Bool.or_eq_true_iff.mp h with h | h
  · have := of_decide_eq_true h
    exact .inl (by omega)
  · have := of_decide_eq_true h
    exact .inr (by omega)
theorem bo_some {o : Option Bool} {r : Rv} (h : bo o = some r) : ∃ b, o = some b ∧ r = .dat (.bool b) := by
  cases o with
  | none => cases h
  | some b => exact ⟨b, rfl, (Option.some.inj h).symm⟩
end

section
variable {X : Cx} {K : PySem.W.Frag}
theorem sv_add : Serves .add (fun x y H Q => rI0 (fun i j => .int (i + j)) x y H Q ∨ (L2.rCatA K x y H Q ∨ L2.rCat x y H Q)) := by
  intro sa g st σ H x y dx dy r Q R hx hy e k
  replace e : evAdd dx dy = some r := e
  unfold evAdd at e
  split at e
  · cases e
    exact .inl ⟨_, _, hx.int, hy.int, post_int R k⟩
  · split at e
    · rename_i xs ys hl
      cases e
      obtain ⟨a, vs, rfl, ha, hva⟩ := hx.tup
      obtain ⟨b, ws, rfl, hb, hvb⟩ := hy.tup
      refine .inr (.inl ⟨a, b, vs, ws, rfl, rfl, SqT.of (R.sub.at ha), SqT.of (R.sub.at hb), by rw [hva.len, hvb.len]; exact hl, fun e => ?_, fun _ e => ?_, fun _ _ p hp => post_tup R (hva.append hvb) hp k⟩)
      · subst e
        have e2 : xs = [] := by cases hva; rfl
        subst e2
        exact post_dat R (.tup hb hvb) k
      · subst e
        have e2 : ys = [] := by cases hvb; rfl
        subst e2
        exact post_dat R (.tup ha (by simpa using hva)) k
    · cases e
  · split at e
    · rename_i xs ys hl
      cases e
      obtain ⟨a, vs, rfl, ha, hva⟩ := hx.lst R.sub
      obtain ⟨b, ws, rfl, hb, hvb⟩ := hy.lst R.sub
      exact .inr (.inr ⟨a, b, vs, ws, rfl, rfl, ha, hb, by rw [hva.len, hvb.len]; exact hl, fun p hp => post_lst R (hva.append hvb) hp k⟩)
    · cases e
  · cases e
theorem sv_mul : Serves .mul (fun x y H Q => rI CMul (fun i j => .int (i * j)) x y H Q ∨ (L2.rRepTA K x y H Q ∨ L2.rRep x y H Q)) := by
  intro sa g st σ H x y dx dy r Q R hx hy e k
  replace e : evMul dx dy = some r := e
  unfold evMul at e
  split at e
  · split at e
    · rename_i i j hc
      cases e
      exact .inl ⟨_, _, hx.int, hy.int, CMul.of hc, post_int R k⟩
    · cases e
  · split at e
    · rename_i xs n hl
      cases e
      obtain ⟨a, vs, rfl, ha, hva⟩ := hx.lst R.sub
      simp only [repOk, Bool.and_eq_true, decide_eq_true_eq] at hl
      exact .inr (.inr ⟨a, n, vs, rfl, hy.int, ha, by omega, by omega, by rw [hva.len]; exact hl.2, fun p hp => post_lst R (hva.rep _) hp k⟩)
    · cases e
  · split at e
    · rename_i xs n hl
      cases e
      obtain ⟨a, vs, rfl, ha, hva⟩ := hx.tup
      simp only [repOkT, Bool.and_eq_true, decide_eq_true_eq] at hl
      refine .inr (.inl ⟨a, n, vs, rfl, hy.int, SqT.of (R.sub.at ha), by omega, by omega, by rw [hva.len]; exact hl.2, fun c => ?_, fun p hp => post_tup R (hva.rep _) hp k⟩)
      have : (List.replicate n.toNat xs).flatten = xs := by
        rcases c with c | c
        · subst c
          have : xs = [] := by cases hva; rfl
          subst this
          simp
        · subst c
          simp
      rw [this] at k
      exact post_dat R (.tup ha hva) k
    · cases e
  · cases e
theorem sv_int {o : Op2} {c : Int → Int → Bool} {f : Int → Int → Int} {C : Int → Int → Prop} {f' : Int → Int → Int} (ho : ∀ a b, evOp2 o a b = evInt c f a b) (hc : ∀ i j, c i j = true → C i j ∧ f i j = f' i j) : Serves o (rI C fun i j => .int (f' i j)) := by
  intro sa g st σ H x y dx dy r Q R hx hy e k
  rw [ho] at e
  unfold evInt at e
  split at e
  · split at e
    · rename_i i j h
      cases e
      obtain ⟨h1, h2⟩ := hc _ _ h
      rw [h2] at k
      exact ⟨_, _, hx.int, hy.int, h1, post_int R k⟩
    · cases e
  · cases e
theorem sv_sub : Serves .sub (rI0 fun i j => .int (i - j)) := by
  intro sa g st σ H x y dx dy r Q R hx hy e k
  obtain ⟨i, j, h1, h2, h3, h4⟩ := sv_int (o := .sub) (C := fun _ _ => True) (f' := fun i j => i - j) (fun _ _ => rfl) (fun _ _ _ => ⟨trivial, rfl⟩) R hx hy e k
  exact ⟨i, j, h1, h2, h4⟩
theorem sv_cmp {o : Op2} {f : Int → Int → Bool} (ho : ∀ a b, evOp2 o a b = evCmp f a b) : Serves o (rI0 fun i j => .bl (f i j)) := by
  intro sa g st σ H x y dx dy r Q R hx hy e k
  rw [ho] at e
  unfold evCmp at e
  split at e
  · cases e
    exact ⟨_, _, hx.int, hy.int, post_bool R k⟩
  · cases e
theorem dec_str {x y : Str} : decide (V.str x = V.str y) = (x == y) := L2.dec_str
theorem sv_eq : Serves .eq (fun x y H Q => L2.rEq x y H Q ∨ L2.rEqD K x y H Q) := by
  intro sa g st σ H x y dx dy r Q R hx hy e k
  obtain ⟨b, e1, rfl⟩ := bo_some e
  replace e := e1
  unfold evEq at e
  split at e
  · cases e
    have := post_bool R k
    rw [← dec_str] at this
    rw [hx.str, hy.str]
    exact .inl ⟨rfl, this⟩
  · split at e
    · rename_i h
      cases e
      obtain ⟨h1, h2⟩ := Bool.and_eq_true_iff.mp h
      exact .inr ⟨_, _, hx.dp R.sub h1, hy.dp R.sub h2, shaped_of (by decide) h1, shaped_of (by decide) h2, post_bool R k⟩
    · cases e
theorem sv_ne : Serves .ne (fun x y H Q => L2.rNe x y H Q ∨ L2.rNeD K x y H Q) := by
  intro sa g st σ H x y dx dy r Q R hx hy e k
  obtain ⟨b, e1, rfl⟩ := bo_some e
  replace e := e1
  obtain ⟨c, e2, rfl⟩ := Option.map_eq_some_iff.mp e
  replace e := e2
  unfold evEq at e
  split at e
  · cases e
    have := post_bool R k
    rw [← dec_str] at this
    rw [hx.str, hy.str]
    exact .inl ⟨rfl, this⟩
  · split at e
    · rename_i h
      cases e
      obtain ⟨h1, h2⟩ := Bool.and_eq_true_iff.mp h
      exact .inr ⟨_, _, hx.dp R.sub h1, hy.dp R.sub h2, shaped_of (by decide) h1, shaped_of (by decide) h2, post_bool R k⟩
    · cases e
def rDIn (n : Bool) : R2 := fun x y H Q => ∃ a o, y = .ref a ∧ L2.DGet H a x o ∧ Q (.bl (o.isSome != n)) H
theorem op_dIn {X : Cx} (hu : X.A.units + 1 < cLine) : OpR X (compareOp .In) (rDIn false) := by
  intro pins s σ H x y v u Q I rx ry h
  obtain ⟨a, o, rfl, g, q⟩ := h
  cases ry
  exact L2.d_in hu I g rx fun s' I' => ⟨.bl o.isSome, H, I', rfl, by simpa using q⟩
theorem op_dNotIn {X : Cx} (hu : X.A.units + 1 < cLine) : OpR X (compareOp .NotIn) (rDIn true) := by
  intro pins s σ H x y v u Q I rx ry h
  obtain ⟨a, o, rfl, g, q⟩ := h
  cases ry
  exact L2.d_notIn hu I g rx fun s' I' => ⟨.bl (!o.isSome), H, I', rfl, by simpa using q⟩
theorem sv_in : Serves .isin (fun x y H Q => L2.rInD K x y H Q ∨ L2.rInT K false x y H Q ∨ rDIn false x y H Q) := by
  intro sa g st σ H x y dx dy r Q R hx hy e k
  obtain ⟨b, e1, rfl⟩ := bo_some e
  replace e := e1
  unfold evIn at e
  split at e
  · split at e
    · rename_i h
      cases e
      obtain ⟨h1, h2⟩ := Bool.and_eq_true_iff.mp h
      exact .inl ⟨_, _, hx.dp R.sub h1, hy.dp R.sub h2, shaped_of (by decide) h1, shaped_of (by decide) h2, post_bool R k⟩
    · cases e
  · split at e
    · rename_i h
      cases e
      obtain ⟨h1, h2⟩ := Bool.and_eq_true_iff.mp h
      exact .inr (.inl ⟨_, _, hx.dp R.sub h1, hy.dp R.sub h2, shaped_of (by decide) h1, shaped_of (by decide) h2, post_bool R k⟩)
    · cases e
  · simp only [Option.bind_eq_some_iff] at e
    obtain ⟨q, e2, e3⟩ := e
    split at e3
    · rename_i hk
      have e4 := dctOf_is e2
      rw [e4] at hy
      obtain ⟨a, o, rfl, rd, dk⟩ := hy.dct R.sub
      obtain ⟨r, g1, _, g3⟩ := dget_of R.sub dk rd (hx.key hk) hk
      cases e3
      refine .inr (.inr ⟨a, r, rfl, g1, ?_⟩)
      have := post_bool R k
      rw [g3] at this
      simpa using this
    · cases e3
  · cases e
theorem sv_notin : Serves .notin (fun x y H Q => L2.rNotInD K x y H Q ∨ L2.rInT K true x y H Q ∨ rDIn true x y H Q) := by
  intro sa g st σ H x y dx dy r Q R hx hy e k
  obtain ⟨b, e1, rfl⟩ := bo_some e
  replace e := e1
  obtain ⟨c, e2, rfl⟩ := Option.map_eq_some_iff.mp e
  replace e := e2
  unfold evIn at e
  split at e
  · split at e
    · rename_i h
      cases e
      obtain ⟨h1, h2⟩ := Bool.and_eq_true_iff.mp h
      exact .inl ⟨_, _, hx.dp R.sub h1, hy.dp R.sub h2, shaped_of (by decide) h1, shaped_of (by decide) h2, post_bool R k⟩
    · cases e
  · split at e
    · rename_i h
      cases e
      obtain ⟨h1, h2⟩ := Bool.and_eq_true_iff.mp h
      exact .inr (.inl ⟨_, _, hx.dp R.sub h1, hy.dp R.sub h2, shaped_of (by decide) h1, shaped_of (by decide) h2, post_bool R k⟩)
    · cases e
  · simp only [Option.bind_eq_some_iff] at e
    obtain ⟨q, e2, e3⟩ := e
    split at e3
    · rename_i hk
      have e4 := dctOf_is e2
      rw [e4] at hy
      obtain ⟨a, o, rfl, rd, dk⟩ := hy.dct R.sub
      obtain ⟨r, g1, _, g3⟩ := dget_of R.sub dk rd (hx.key hk) hk
      cases e3
      refine .inr (.inr ⟨a, r, rfl, g1, ?_⟩)
      have := post_bool R k
      rw [g3] at this
      simpa using this
    · cases e3
  · cases e
theorem Vw.ne_non {g : Gh} {H : Hp} {x : V} {d : D} (h : Vw g H x d) (hd : d ≠ .none) : x ≠ .non := by
  rcases h with h | ⟨a, vs, ds, rfl, rfl, h1, h2⟩ | ⟨a, o, T, kvs, rfl, rfl, h1, h2⟩
  · cases h <;> first
      | exact absurd rfl hd
      | exact fun z => nomatch z
  · exact fun z => nomatch z
  · exact fun z => nomatch z
theorem sv_is : Serves .is_ (fun x y H Q => (y = .non ∧ Q (.bl (decide (x = .non))) H) ∨ (∃ a b, x = .bl a ∧ y = .bl b ∧ Q (.bl (decide (a = b))) H)) := by
  intro sa g st σ H x y dx dy r Q R hx hy e k
  obtain ⟨b, e1, rfl⟩ := bo_some e
  replace e := e1
  unfold evIs at e
  split at e
  · cases e
    refine .inr ⟨_, _, hx.bool, hy.bool, ?_⟩
    have := post_bool R k
    rw [Bool.beq_eq_decide_eq] at this
    exact this
  all_goals first
    | (cases e
       refine .inl ⟨hy.none, ?_⟩
       have := post_bool R k
       first
         | (rw [decide_eq_true hx.none]; exact this)
         | (rw [decide_eq_false (hx.ne_non (fun z => nomatch z))]; exact this))
    | cases e
theorem sv_isnt : Serves .isnt (fun x y H Q => (y = .non ∧ Q (.bl (!decide (x = .non))) H) ∨ (∃ a b, x = .bl a ∧ y = .bl b ∧ Q (.bl (!decide (a = b))) H)) := by
  intro sa g st σ H x y dx dy r Q R hx hy e k
  obtain ⟨b, e1, rfl⟩ := bo_some e
  replace e := e1
  obtain ⟨c, e2, rfl⟩ := Option.map_eq_some_iff.mp e
  replace e := e2
  unfold evIs at e
  split at e
  · cases e
    refine .inr ⟨_, _, hx.bool, hy.bool, ?_⟩
    have := post_bool R k
    rw [Bool.beq_eq_decide_eq] at this
    exact this
  all_goals first
    | (cases e
       refine .inl ⟨hy.none, ?_⟩
       have := post_bool R k
       first
         | (rw [decide_eq_true hx.none]; exact this)
         | (rw [decide_eq_false (hx.ne_non (fun z => nomatch z))]; exact this))
    | cases e

/-- which operators are binary operators of the text, which comparisons -/
def opAst : Op2 → Option Operator
  | .add => some .Add | .sub => some .Sub | .mul => some .Mult | .fdiv => some .FloorDiv | .mod => some .Mod | .shl => some .LShift | _ => none
def cmpAst : Op2 → Option CmpOp
  | .eq => some .Eq | .ne => some .NotEq | .lt => some .Lt | .le => some .LtE | .gt => some .Gt | .ge => some .GtE | .isin => some .In | .notin => some .NotIn | .is_ => some .Is | .isnt => some .IsNot | _ => none
theorem binR {o : Op2} {op : Operator} (h : opAst o = some op) : ∃ r2, OpR X (binaryOp op) r2 ∧ Serves o r2 := by
  cases o <;> simp only [opAst, Option.some.injEq, reduceCtorEq] at h <;> subst h
  · exact ⟨_, L2.OpR.or L2.op_add (L2.OpR.or L2.op_catA L2.op_cat), sv_add⟩
  · exact ⟨_, L2.op_sub, sv_sub⟩
  · exact ⟨_, L2.OpR.or L2.op_mul (L2.OpR.or L2.op_repTA L2.op_rep), sv_mul⟩
  · refine ⟨_, L2.op_fdivN, sv_int (fun _ _ => rfl) fun i j h => ⟨?_, rfl⟩⟩
    simp only [divOk, Bool.and_eq_true, decide_eq_true_eq] at h
    exact h
  · refine ⟨_, L2.op_modN, sv_int (fun _ _ => rfl) fun i j h => ⟨?_, rfl⟩⟩
    simpa using h
  · refine ⟨_, L2.op_shl, sv_int (fun _ _ => rfl) fun i j h => ⟨?_, rfl⟩⟩
    simp only [shlOk, smallI, Bool.and_eq_true, decide_eq_true_eq] at h
    exact ⟨h.1.1, (by omega), h.2⟩
theorem cmpR (hu : X.A.units + 65 < cLine) {o : Op2} {op : CmpOp} (h : cmpAst o = some op) : ∃ r2, OpR X (compareOp op) r2 ∧ Serves o r2 := by
  cases o <;> simp only [cmpAst, Option.some.injEq, reduceCtorEq] at h <;> subst h
  · exact ⟨_, L2.OpR.or L2.op_eq (L2.op_eqD (by omega)), sv_eq⟩
  · exact ⟨_, L2.OpR.or L2.op_ne (L2.op_neD (by omega)), sv_ne⟩
  · exact ⟨_, L2.op_lt, sv_cmp fun _ _ => rfl⟩
  · exact ⟨_, L2.op_le, sv_cmp fun _ _ => rfl⟩
  · exact ⟨_, L2.op_gt, sv_cmp fun _ _ => rfl⟩
  · exact ⟨_, L2.op_ge, sv_cmp fun _ _ => rfl⟩
  · exact ⟨_, L2.OpR.or (L2.op_inD hu) (L2.OpR.or (L2.op_inT hu) (op_dIn (by omega))), sv_in⟩
  · exact ⟨_, L2.OpR.or (L2.op_notInD hu) (L2.OpR.or (L2.op_notInT hu) (op_dNotIn (by omega))), sv_notin⟩
  · exact ⟨_, L2.OpR.or L2.op_isN L2.op_is_bl, sv_is⟩
  · exact ⟨_, L2.OpR.or L2.op_notN L2.op_isnot_bl, sv_isnt⟩
end
end Pf

set_option maxRecDepth 100000
set_option maxHeartbeats 4000000
/-! Pf3b: x[::-1] of a list or a tuple. -/
namespace HT
open PySem PySem.Spec PyProof.Rows L2
theorem fm_congr {α β : Type} {f g : α → Option β} : ∀ {l : List α}, (∀ x ∈ l, f x = g x) → l.filterMap f = l.filterMap g
  | [], _ => rfl
  | a :: l, h => by
    rw [List.filterMap_cons, List.filterMap_cons, h a (by simp), fm_congr (l := l) fun x hx => h x (by simp [hx])]
section
variable {prog : Program} {w : World} {A : Around} {E : Value → Shared → Prop} {s : Shared}
theorem rev_pick (xs : Array Value) : ((List.range xs.size).filterMap fun (m : Nat) => xs[(((xs.size : Int) - 1) + (m : Int) * (-1)).toNat]?).toArray = xs.toList.reverse.toArray := by
  congr 1
  have e : ((List.range xs.size).filterMap fun (m : Nat) => xs[(((xs.size : Int) - 1) + (m : Int) * (-1)).toNat]?) = (List.range xs.toList.reverse.toArray.size).filterMap (xs.toList.reverse.toArray[·]?) := by
    rw [show xs.toList.reverse.toArray.size = xs.size by simp]
    refine fm_congr fun m hm => ?_
    have hm : m < xs.size := List.mem_range.mp hm
    show xs[(((xs.size : Int) - 1) + (m : Int) * (-1)).toNat]? = xs.toList.reverse.toArray[m]?
    have h1 : xs.toList.reverse.toArray[m]? = xs.toList.reverse[m]? := by simp
    rw [h1, List.getElem?_reverse (by rw [Array.length_toList]; exact hm), Array.length_toList, Array.getElem?_toList]
    congr 1
    omega
  rw [e, PySem.W.krv_all]
theorem sliceApplied_rev {sl : Addr} {v : Value} {n : Nat} {Q : Int × Int × Nat → Shared → Prop} (hs : s.heap.IsSliceOf sl .none .none v) (pv : IsPart v (some (-1)))
    (h : Q ((n : Int) - 1, -1, n) s) : wpAny (model prog w) A (Builtin.Slice.sliceApplied (.ref sl) (pure (n : Int))) Q E s := by
  obtain ⟨os, hos, hcs, hds⟩ := id hs
  unfold Builtin.Slice.sliceApplied Builtin.Slice.sliceFields
  refine wpAny_bind (wpAny_bind (wpAny_field hos hds (x := .none) rfl (wpAny_bind (wpAny_field hos hds (x := .none) rfl (wpAny_bind (wpAny_field hos hds (x := v) rfl (wpAny_pure ?_)))))))
  refine wpAny_bind (slicePart_ pv ?_)
  show wpAny _ _ (if ((-1 : Int) == 0) = true then _ else _) _ _ s
  rw [if_neg (by decide)]
  refine wpAny_bind (slicePart_none (wpAny_bind (slicePart_none (wpAny_bind (wpAny_pure ?_)))))
  show wpAny _ _ (match Builtin.Slice.sliceAdjust none none (-1) (n : Int) with | (lo, hi) => pure (lo, (-1 : Int), Builtin.Slice.slicePlaces lo hi (-1))) _ _ s
  have e1 : Builtin.Slice.sliceAdjust none none (-1) (n : Int) = ((n : Int) - 1, -1) := rfl
  have e2 : Builtin.Slice.slicePlaces ((n : Int) - 1) (-1) (-1) = n := by
    unfold Builtin.Slice.slicePlaces
    have h1 : ¬ ((-1 : Int) > 0) := by omega
    have h2 : (-(-1 : Int)) = 1 := by decide
    simp only [h1, if_false, h2, Int.ediv_one]
    split <;> omega
  rw [e1]
  show wpAny _ _ (pure ((n : Int) - 1, (-1 : Int), Builtin.Slice.slicePlaces ((n : Int) - 1) (-1) (-1))) _ _ s
  rw [e2]
  exact wpAny_pure h
theorem getItem_tuple_rev {t sl : Addr} {items : Array Value} {v : Value} {Q : Value → Shared → Prop} (ht : IsTup s.heap t items) (hs : s.heap.IsSliceOf sl .none .none v) (pv : IsPart v (some (-1)))
    (h : Q (.ref s.heap.objs.size) { s with heap := s.heap.push { cls := .type "tuple", data := .seq items.toList.reverse.toArray } })
    (hsz : items.size ≤ sizeLine) : wpAny (model prog w) A (getItem (.ref t) (.ref sl)) Q E s := by
  have htake : sizeOk (.seq items.toList.reverse.toArray) := by
    show items.toList.reverse.toArray.size ≤ sizeLine
    simpa using hsz
  obtain ⟨os, hos, hcs, hds⟩ := id hs
  have hTs : s.TypeIs (.ref sl) "slice" := ⟨os, hos, hcs⟩
  unfold getItem
  try with_reducible refine wpAny_holding ?_
  first | refine wpAny_bind (wpAny_pure ?_) | skip
  refine wpAny_bind (wpAny_sequenceKey ht.typeIs (by decide) ?_)
  refine wpAny_bind (wpAny_callSpecial?_slot (name := Str.ofString "__getitem__") ht.typeIs PyProof.Rows.slot_tuple_getitem
    (wpAny_call_entry PyProof.Rows.slot_tuple_getitem ht.typeIs entry_tuple_getitem ?_ (args_tuple_getitem _ _)))
  show wpAny _ _ (Builtin.Tuple.tupleItemsOf (.ref t) >>= _) _ _ s
  refine wpAny_bind (tupleItemsOf_ ht ?_)
  refine wpAny_bind (wpAny_typeOf hTs ?_)
  rw [if_pos (by decide)]
  refine wpAny_bind (sliceApplied_rev hs pv ?_)
  have hno : ¬ ((((items.size : Int) - 1) == 0 && (-1 : Int) == 1 && items.size == items.size) = true) := by
    intro q
    rw [Bool.and_eq_true, Bool.and_eq_true] at q
    exact absurd q.1.2 (by decide)
  show wpAny _ _ (if (((items.size : Int) - 1) == 0 && (-1 : Int) == 1 && items.size == items.size) = true then _ else _) _ _ s
  rw [if_neg hno, rev_pick]
  first
    | exact wpAny_bind (m := Builtin.Tuple.tupleExact _) (wpAny_newObj_type (wpAny_pure ⟨_, rfl, wpAny_pure h⟩) htake)
    | exact wpAny_bind (m := Builtin.Tuple.tupleExact _) (wpAny_newObj_type (wpAny_bind (wpAny_pure (wpAny_pure ⟨_, rfl, wpAny_pure h⟩))) htake)
    | exact wpAny_bind (wpAny_bind (m := Builtin.Tuple.tupleExact _) (wpAny_newObj_type (wpAny_pure (wpAny_pure ⟨_, rfl, wpAny_pure h⟩)) htake))
    | exact wpAny_bind (wpAny_bind (m := Builtin.Tuple.tupleExact _) (wpAny_newObj_type (wpAny_pure ⟨_, rfl, wpAny_pure h⟩) htake))
end
end HT
namespace L2
open PySem PySem.Spec PyProof.Rows
/-- x[::-1], a list or a tuple: a new one -/
def tRev (K : PySem.W.Frag) (te : TE) : TE := fun σ H Q => te σ H fun x H1 => ∃ a xs, x = .ref a ∧ ((SqL K H1 a xs ∧ ∀ p, H1 p = none → Q (.ref p) (upd H1 p (.lst xs.reverse))) ∨ (SqT K H1 a xs ∧ ∀ p, H1 p = none → Q (.ref p) (upd H1 p (.tup xs.reverse))))
theorem pe_rev {X : Cx} {e : Expr} {te : TE} {k : Nat} {p1 p2 p3 pos : Pos} (he : PE X e te) : PE X (.Subscript e (.Slice none none (some (.UnaryOp .USub (.Constant (.int 1) k p1) p2)) p3) pos) (tRev X.K te) := by
  refine ⟨fun pins s σ H Q I h => ?_⟩
  refine Subscript_ (thn (he.run pins s σ H _ I h) fun v s1 ⟨x, H1, I1, r1, q1⟩ => ?_)
  obtain ⟨a, xs, ex, q⟩ := q1
  subst ex
  cases r1
  have hst : PO X (some (.UnaryOp .USub (.Constant (.int 1) k p1) p2)) (tPart (tUn (rU fun i => .int (-i)) (tC (.int 1)))) := po_some (pe_un un_neg pe_int)
  refine wpAny_Slice (thn (po_none.run pins s1 σ H1 (fun o H2 => o = none ∧ H2 = H1) I1 ⟨rfl, rfl⟩) fun vl s2 ⟨l, H2, I2, pl, el, e2⟩ => ?_)
  subst el e2
  refine thn (po_none.run pins s2 σ H2 (fun o H3 => o = none ∧ H3 = H2) I2 ⟨rfl, rfl⟩) fun vu s3 ⟨u, H3, I3, pu, eu, e3⟩ => ?_
  subst eu e3
  refine thn (hst.run pins s3 σ H3 (fun o H4 => o = some (-1) ∧ H4 = H3) I3 ⟨1, rfl, -1, rfl, rfl, rfl⟩) fun vs s4 ⟨o, H4, I4, ps, eo, e4⟩ => ?_
  subst eo e4
  have I5 : Inv X pins σ H4 { s4 with heap := s4.heap.push { cls := .type "slice", data := .fields #[vl, vu, vs] } } := I4.kept (t' := s4.toks) fun b ob q => Heap.get?_push_of_some _ q
  rcases q with ⟨hx, q⟩ | ⟨hx, q⟩
  · obtain ⟨its, r, ht, hz⟩ := I5.list hx
    have hlen := r.length
    show wpAny (model X.prog X.w) X.A (subscriptTail e (.Slice none none (some (.UnaryOp .USub (.Constant (.int 1) k p1) p2)) p3) (.ref a) (.ref s4.heap.objs.size)) (EP X pins σ Q) X.xe { s4 with heap := s4.heap.push { cls := .type "slice", data := .fields #[vl, vu, vs] } }
    refine tail_any (ops := [.ref a, .ref s4.heap.objs.size]) ht.isList.typeIs (PySem.slot_list_getitem.lookup) ?_ (by with_unfolding_all rfl)
    refine wpAny_getItem_list_slice ht.isList (Heap.IsSliceOf.new _ vl vu vs) pl pu ps (by decide) ?_ (by rw [List.size_toArray]; omega)
    rw [PySem.W.krv_pick]
    refine ⟨.ref _, _, I5.laid (t' := s4.toks) (o := .lst xs.reverse) (fun b ob q => Heap.get?_push_of_some _ q) (Nat.le_refl _) ?_, rfl, q _ (I5.hok.fresh (Nat.le_refl _))⟩
    exact ⟨by rw [List.length_reverse]; exact hz, _, 0, r.reverse, Heap.get?_push_size _ rfl⟩
  · obtain ⟨its, r, ht, hz⟩ := I5.tuple hx
    have hlen := r.length
    cases pl
    cases pu
    show wpAny (model X.prog X.w) X.A (subscriptTail e (.Slice none none (some (.UnaryOp .USub (.Constant (.int 1) k p1) p2)) p3) (.ref a) (.ref s4.heap.objs.size)) (EP X pins σ Q) X.xe { s4 with heap := s4.heap.push { cls := .type "slice", data := .fields #[.none, .none, vs] } }
    refine tail_any (ops := [.ref a, .ref s4.heap.objs.size]) ht.typeIs (PyProof.Rows.slot_tuple_getitem.lookup) ?_ (by with_unfolding_all rfl)
    refine HT.getItem_tuple_rev ht (Heap.IsSliceOf.new _ .none .none vs) ps ?_ (by rw [List.size_toArray]; omega)
    refine ⟨.ref _, _, I5.laid (t' := s4.toks) (o := .tup xs.reverse) (fun b ob q => Heap.get?_push_of_some _ q) (Nat.le_refl _) ?_, rfl, q _ (I5.hok.fresh (Nat.le_refl _))⟩
    exact ⟨by rw [List.length_reverse]; exact hz, _, r.reverse, IsTup.new _ _⟩
end L2

set_option maxRecDepth 100000
/-! Pf4: expressions. -/
namespace Pf
open PySem PySem.Spec PyProof.Rows
open L2 (V Hp HO upd upd_same upd_ne Same SqL SqT Dp DpAll Key Vals Cx Inv OpR R2 VK PE PT PA TE TT TA RelV rI rI0 rU UnR CMul EP tOp tUn tB tTest tVar tC Vis Gl)

def tD (sa : SA) (ev : St → Option (Rv × St)) : TE := fun σ H Q => ∃ g st r st', SR sa g st σ H ∧ ev st = some (r, st') ∧ Post sa g st' σ H r Q
def tDT (sa : SA) (ev : St → Option (Rv × St)) : TT := fun σ H Q => ∃ g st b st', SR sa g st σ H ∧ ev st = some (.dat (.bool b), st') ∧ ∀ g' H', SR sa g' st' σ H' → Ext sa g H g' H' → Q b H'
theorem _root_.L2.PE.wk {X : Cx} {e : Expr} {t t' : TE} (h : PE X e t) (f : ∀ σ H Q, t' σ H Q → t σ H Q) : PE X e t' := ⟨fun pins s σ H Q I q => h.run pins s σ H Q I (f _ _ _ q)⟩
theorem _root_.L2.PT.wk {X : Cx} {e : Expr} {t t' : TT} (h : PT X e t) (f : ∀ σ H Q, t' σ H Q → t σ H Q) : PT X e t' := ⟨fun pins s σ H Q I q => h.run pins s σ H Q I (f _ _ _ q)⟩
theorem _root_.L2.PA.wk {X : Cx} {e : List Expr} {t t' : TA} (h : PA X e t) (f : ∀ σ H Q, t' σ H Q → t σ H Q) : PA X e t' := ⟨fun pos pins s σ H Q I q => h.run pos pins s σ H Q I (f _ _ _ q)⟩
/-- no starred item, no set display, no slice, no name -/
def okE : Expr → Bool
  | .Starred .. => false
  | .Set .. => false
  | .Slice .. => false
  | _ => true
structure DE (X : Cx) (sa : SA) (e : Expr) (ev : St → Option (Rv × St)) : Prop where
  pe : PE X e (tD sa ev)
  pt : PT X e (tDT sa ev)
  ok : okE e = true
theorem starEach_ok {e : Expr} {es : List Expr} {env : Env} (h : okE e = true) : starEach (e :: es) env = (false, PySem.eval e env) :: starEach es env := by
  cases e <;> first
    | rfl
    | cases h
theorem marks_ok {e : Expr} {op : CmpOp} (h : okE e = true) : behindInMarks op e = false := by
  cases e <;> first
    | rfl
    | cases h
theorem plainIx_ok {e : Expr} (h : okE e = true) : L2.PlainIx e := by
  intro o i
  cases e <;> first
    | rfl
    | cases h
theorem folded_ok {e : Expr} {env : Env} (h : okE e = true) : ∀ x, foldedSetIterable e env x = pure x := by
  intro x
  cases e <;> first
    | rfl
    | cases h
section
variable {X : Cx} {sa : SA} {ev : St → Option (Rv × St)} {e : Expr}
theorem tDT_tB {σ : L2.St} {H : Hp} {Q : Bool → Hp → Prop} (h : tDT sa ev σ H Q) : tB (tD sa ev) σ H Q := by
  obtain ⟨g, st, b, st', R, e, k⟩ := h
  refine ⟨g, st, _, st', R, e, fun v g' H' R' E' O => ?_⟩
  have O : Dt g'.Z v (.bool b) := O
  cases O
  exact ⟨b, rfl, k g' H' R' E'⟩
theorem DE.val (h : PE X e (tD sa ev)) (ok : okE e = true) (he : ∀ whole, PySem.isTrue e X.env whole = (do let v ← whole; standAt e.pos; holding [v] (truthy v)) := by intro _; rfl) : DE X sa e ev :=
  ⟨h, (L2.pt_val h he).wk fun _ _ _ q => tDT_tB q, ok⟩
theorem DE.imp {ev' : St → Option (Rv × St)} (h : DE X sa e ev) (k : ∀ st x, ev' st = some x → ev st = some x) : DE X sa e ev' :=
  ⟨h.pe.wk fun σ H Q ⟨g, st, r, st', R, e, q⟩ => ⟨g, st, r, st', R, k _ _ e, q⟩, h.pt.wk fun σ H Q ⟨g, st, r, st', R, e, q⟩ => ⟨g, st, r, st', R, k _ _ e, q⟩, h.ok⟩

/-! ### names, constants -/
variable (Γ : Nat → Fn)
theorem de_var {i : Nat} {x : Str} {pos : Pos} (hN : X.N[i]? = some x) (hv : Vis X.env.scope x) (hd : (x == ("__debug__" : Str)) = false) (hcd : (x == ("__classdict__" : Str)) = false) : DE X sa (.Name x pos) (eval Γ (.var i)) := by
  refine DE.val ((L2.pe_var hN hv hd hcd).wk fun σ H Q ⟨g, st, r, st', R, e, k⟩ => ?_) rfl
  simp only [eval] at e
  have s := R.slot i
  cases q : st.get i with
  | un => rw [q] at e; cases e
  | dat d =>
    rw [q] at e s
    cases e
    obtain ⟨v, e1, r⟩ := s
    exact ⟨v, e1, k v g H R .refl r⟩
  | src =>
    rw [q] at e s
    cases e
    obtain ⟨s0, c0, e1, e2⟩ := s
    exact ⟨_, e2, k _ g H R .refl ⟨s0, c0, e1, rfl⟩⟩
  | lst xs =>
    rw [q] at e s
    cases e
    obtain ⟨a, vs, e1, h1, h2, h3, h4⟩ := s
    exact ⟨_, e1, k _ g H R .refl e1⟩
  | dct T kvs =>
    rw [q] at e s
    cases e
    obtain ⟨a, o, e1, h1, h2, h3, h4⟩ := s
    exact ⟨_, e1, k _ g H R .refl e1⟩
theorem cst_of {v : V} {d : D} (hd : ∀ Z : Hp, Dt Z v d) {σ : L2.St} {H : Hp} {Q : VK} (h : tD sa (eval Γ (.cst d)) σ H Q) : tC v σ H Q := by
  obtain ⟨g, st, r, st', R, e, k⟩ := h
  simp only [eval] at e
  cases e
  exact k v g H R .refl (hd _)
theorem de_int {i j pos} : DE X sa (.Constant (.int i) j pos) (eval Γ (.cst (.int i))) := DE.val (L2.pe_int.wk fun _ _ _ h => cst_of Γ (fun _ => .int i) h) rfl
theorem de_bool {i j pos} : DE X sa (.Constant (.bool i) j pos) (eval Γ (.cst (.bool i))) := DE.val (L2.pe_bl.wk fun _ _ _ h => cst_of Γ (fun _ => .bl i) h) rfl
theorem de_str {i j pos} : DE X sa (.Constant (.str i) j pos) (eval Γ (.cst (.str i))) := DE.val (L2.pe_str.wk fun _ _ _ h => cst_of Γ (fun _ => .str i) h) rfl
theorem de_none {j pos} : DE X sa (.Constant .none j pos) (eval Γ (.cst .none)) := DE.val (L2.pe_non.wk fun _ _ _ h => cst_of Γ (fun _ => .non) h) rfl

/-! ### freezing a result -/
theorem frz_ok {g0 g : Gh} {H0 H : Hp} {st st' : St} {σ : L2.St} {v : V} {r : Rv} {d : D} (R : SR sa g st σ H) (E : Ext sa g0 H0 g H) (O : RvOk sa H0 g σ H v r) (e : frz st r = some (d, st')) :
    ∃ g', SR sa g' st' σ H ∧ Ext sa g0 H0 g' H ∧ Same g.Z g'.Z ∧ Dt g'.Z v d := by
  cases r with
  | dat d' =>
    simp only [frz] at e
    cases e
    exact ⟨g, R, E, Same.refl _, O⟩
  | src => cases e
  | view i =>
    simp only [frz] at e
    have s := R.slot i
    have O : σ[i]? = some (some v) := O
    cases q : st.get i with
    | un => rw [q] at e; cases e
    | src => rw [q] at e; cases e
    | dat d' =>
      rw [q] at e s
      cases e
      obtain ⟨v', e1, r⟩ := s
      rw [O] at e1
      cases e1
      exact ⟨g, R, E, Same.refl _, r⟩
    | lst xs =>
      rw [q] at e
      cases e
      obtain ⟨g', v', R', E', e1, r⟩ := R.freeze q
      rw [O] at e1
      cases e1
      exact ⟨g', R', E.trans E', E'.z, r⟩
    | dct T kvs =>
      rw [q] at e
      cases e
      obtain ⟨g', v', R', E', e1, r⟩ := R.freezeD q
      rw [O] at e1
      cases e1
      exact ⟨g', R', E.trans E', E'.z, r⟩
  | lst xs =>
    simp only [frz] at e
    cases e
    obtain ⟨p, vs, rfl, h0, h1, h2, h3, h4, h5⟩ := O
    obtain ⟨R', zz⟩ := R.ice h1 h4 h3 h5
    refine ⟨_, R', ⟨E.z.trans zz, fun a o q n s => ?_, E.there⟩, zz, .lst upd_same (dtAllMono zz _ h2)⟩
    obtain ⟨e1, e2, e3⟩ := E.keep a o q n s
    refine ⟨e1, e2, fun t z => ?_⟩
    show upd g.Z p (.lst vs) a = none
    rw [upd_ne (fun e => by rw [e, h0] at q; cases q)]
    exact e3 t z
  | dct T kvs =>
    simp only [frz] at e
    cases e
    obtain ⟨p, o, rfl, h0, h1, h2, h3, h4, h5⟩ := O
    obtain ⟨R', zz⟩ := R.iceO (p := p) (o := dz o) ⟨(fun q => absurd (show true = false from q) (by decide)), (fun p' u q => by unfold dz at q; cases q; exact ⟨.inl h1, h2.no⟩)⟩ h4 h3 h5
    refine ⟨_, R', ⟨E.z.trans zz, fun a o q n s => ?_, E.there⟩, zz, (h2.mono zz).dt upd_same⟩
    obtain ⟨e1, e2, e3⟩ := E.keep a o q n s
    refine ⟨e1, e2, fun t z => ?_⟩
    show upd g.Z p (dz _) a = none
    rw [upd_ne (fun e => by rw [e, h0] at q; cases q)]
    exact e3 t z

/-! ### arguments -/
def tDA (sa : SA) (ev : St → Option (List D × St)) : TA := fun σ H Q => ∃ g st ds st', SR sa g st σ H ∧ ev st = some (ds, st') ∧ ∀ vs g' H', SR sa g' st' σ H' → Ext sa g H g' H' → DtAll g'.Z vs ds → Q vs H'
abbrev DA (X : Cx) (sa : SA) (es : List Expr) (ev : St → Option (List D × St)) : Prop := PA X es (tDA sa ev)
theorem da_nil : DA X sa [] (evals Γ .nil) := L2.pa_nil.wk fun σ H Q ⟨g, st, ds, st', R, e, k⟩ => by
  simp only [evals] at e
  cases e
  exact k [] g H R .refl .nil
theorem da_cons {es : List Expr} {c : Ex} {cs : Exs} (h : DE X sa e (eval Γ c)) (hs : DA X sa es (evals Γ cs)) : DA X sa (e :: es) (evals Γ (.cons c cs)) := by
  refine (L2.pa_cons h.pe hs (starEach_ok h.ok)).wk fun σ H Q ⟨g, st, ds, st', R, e, k⟩ => ?_
  simp only [evals, Option.bind_eq_some_iff, Option.map_eq_some_iff] at e
  obtain ⟨⟨r1, st1⟩, e1, ⟨d, st2⟩, e2, ⟨ds', st3⟩, e3, e4⟩ := e
  cases e4
  refine ⟨g, st, r1, st1, R, e1, fun v g1 H1 R1 E1 O1 => ?_⟩
  obtain ⟨g2, R2, E2, z2, O2⟩ := frz_ok R1 E1 O1 e2
  refine ⟨g2, st2, ds', st3, R2, e3, fun vs g3 H3 R3 E3 O3 => ?_⟩
  exact k (v :: vs) g3 H3 R3 (E2.trans E3) (.cons (dtMono E3.z _ O2) O3)
theorem da_star {es : List Expr} {c : Ex} {cs : Exs} {p : Pos} (h : DE X sa e (eval Γ c)) (hs : DA X sa es (evals Γ cs)) : DA X sa (.Starred e p :: es) (evals Γ (.star c cs)) := by
  refine (StX.pa_star h.pe hs).wk fun σ H Q ⟨g, st, ds, st', R, e, k⟩ => ?_
  simp only [evals, Option.bind_eq_some_iff, Option.map_eq_some_iff] at e
  obtain ⟨⟨r1, st1⟩, e1, ⟨d, st2⟩, e2, xs, e5, ⟨ds', st3⟩, e3, e4⟩ := e
  cases e4
  refine ⟨g, st, r1, st1, R, e1, fun v g1 H1 R1 E1 O1 => ?_⟩
  obtain ⟨g2, R2, E2, z2, O2⟩ := frz_ok R1 E1 O1 e2
  cases d with
  | list ds1 =>
    cases e5
    cases O2 with
    | lst h1 h2 =>
      refine ⟨_, _, rfl, .inr (SqL.of (R2.sub.at h1)), g2, st2, ds', st3, R2, e3, fun vs g3 H3 R3 E3 O3 => ?_⟩
      exact k _ g3 H3 R3 (E2.trans E3) ((dtAllMono E3.z _ h2).append O3)
  | tuple ds1 =>
    cases e5
    cases O2 with
    | tup h1 h2 =>
      refine ⟨_, _, rfl, .inl (SqT.of (R2.sub.at h1)), g2, st2, ds', st3, R2, e3, fun vs g3 H3 R3 E3 O3 => ?_⟩
      exact k _ g3 H3 R3 (E2.trans E3) ((dtAllMono E3.z _ h2).append O3)
  | _ => cases e5
theorem de_tup {es : List Expr} {cs : Exs} {x1 pos} (h : DA X sa es (evals Γ cs)) : DE X sa (.Tuple es x1 pos) (eval Γ (.tup cs)) := by
  refine DE.val ((L2.pe_tup h).wk fun σ H Q ⟨g, st, r, st', R, e, k⟩ => ?_) rfl
  simp only [eval, Option.bind_eq_some_iff] at e
  obtain ⟨⟨ds, st1⟩, e1, e2⟩ := e
  split at e2
  · rename_i hl
    cases e2
    refine ⟨g, st, ds, st1, R, e1, fun vs g1 H1 R1 E1 O1 => ⟨by rw [O1.len]; exact hl, fun p hp => ?_⟩⟩
    obtain ⟨R2, E2, zz⟩ := R1.newIce (o := .tup vs) hp
    exact k _ _ _ R2 (E1.trans E2) (.tup upd_same (dtAllMono zz _ O1))
  · cases e2
theorem de_lst {es : List Expr} {cs : Exs} {pos} (h : DA X sa es (evals Γ cs)) : DE X sa (.List es pos) (eval Γ (.lst cs)) := by
  refine DE.val ((L2.pe_lst h).wk fun σ H Q ⟨g, st, r, st', R, e, k⟩ => ?_) rfl
  simp only [eval, Option.bind_eq_some_iff] at e
  obtain ⟨⟨ds, st1⟩, e1, e2⟩ := e
  split at e2
  · rename_i hl
    cases e2
    refine ⟨g, st, ds, st1, R, e1, fun vs g1 H1 R1 E1 O1 => ⟨by rw [O1.len]; exact hl, fun p hp => ?_⟩⟩
    obtain ⟨R2, E2, z, w, ns⟩ := R1.new (o := .lst vs) hp
    refine k _ _ _ R2 (E1.trans E2) ⟨p, vs, rfl, ?_, upd_same, O1, z, w, ns⟩
    cases q : H p with
    | none => rfl
    | some o => exact absurd hp (E1.there p (by rw [q]; exact fun z => nomatch z))
  · cases e2

/-! ### operators -/
theorem weakPost {g g' : Gh} {st' : St} {σ : L2.St} {H H' : Hp} {r : Rv} {Q : VK} (E : Ext sa g H g' H') (k : Post sa g st' σ H r Q) : Post sa g' st' σ H' r Q :=
  fun v g2 H2 R2 E2 O2 => k v g2 H2 R2 (E.trans E2) (O2.weak E.there)
theorem rd_op2 {r2 : R2} {o : Op2} (hs : Serves o r2) {ca cb : Ex} {σ : L2.St} {H : Hp} {Q : VK} (h : tD sa (eval Γ (.op2 o ca cb)) σ H Q) : tOp r2 (tD sa (eval Γ ca)) (tD sa (eval Γ cb)) σ H Q := by
  obtain ⟨g, st, r, st', R, e, k⟩ := h
  simp only [eval, Option.bind_eq_some_iff, Option.map_eq_some_iff] at e
  obtain ⟨⟨r1, st1⟩, e1, ⟨r2', st2⟩, e2, x, e3, y, e4, r', e5, e6⟩ := e
  cases e6
  refine ⟨g, st, r1, st1, R, e1, fun v g1 H1 R1 E1 O1 => ⟨g1, st1, r2', st2, R1, e2, fun u g2 H2 R2 E2 O2 => ?_⟩⟩
  exact hs R2 ((O1.ext E2).vw R2 e3) (O2.vw R2 e4) e5 (weakPost (E1.trans E2) k)
theorem de_bin {o : Op2} {op : Operator} {a b : Expr} {ca cb : Ex} {pos : Pos} (ho : opAst o = some op) (ha : DE X sa a (eval Γ ca)) (hb : DE X sa b (eval Γ cb)) : DE X sa (.BinOp a op b pos) (eval Γ (.op2 o ca cb)) := by
  obtain ⟨r2, h1, h2⟩ := binR (X := X) ho
  exact DE.val ((L2.pe_op h1 ha.pe hb.pe).wk fun σ H Q h => rd_op2 Γ h2 h) rfl
theorem tDT_tTest {ev : St → Option (Rv × St)} {σ : L2.St} {H : Hp} {Q : Bool → Hp → Prop} (h : tDT sa ev σ H Q) : tD sa ev σ H fun x H' => ∃ k, x = .bl k ∧ Q k H' := tDT_tB h
theorem de_cmp (hu : X.A.units + 65 < cLine) {o : Op2} {op : CmpOp} {a b : Expr} {ca cb : Ex} {pos : Pos} (ho : cmpAst o = some op) (ha : DE X sa a (eval Γ ca)) (hb : DE X sa b (eval Γ cb)) : DE X sa (.Compare a [op] [b] pos) (eval Γ (.op2 o ca cb)) := by
  obtain ⟨r2, h1, h2⟩ := cmpR hu ho
  exact ⟨(L2.pe_cmpR h1 ha.pe hb.pe (marks_ok hb.ok)).wk fun σ H Q h => rd_op2 Γ h2 h, (L2.pt_cmpR h1 ha.pe hb.pe (marks_ok hb.ok)).wk fun σ H Q h => rd_op2 Γ h2 (tDT_tTest h), rfl⟩
theorem rd_chain {r2 r2' : R2} {o1 o2 : Op2} (hs : Serves o1 r2) (hs' : Serves o2 r2') {ca cb cc : Ex} {σ : L2.St} {H : Hp} {Q : VK} (h : tD sa (eval Γ (.chain o1 o2 ca cb cc)) σ H Q) :
    L2.tChain r2 r2' (tD sa (eval Γ ca)) (tD sa (eval Γ cb)) (tD sa (eval Γ cc)) σ H Q := by
  obtain ⟨g, st, r, st', R, e, k⟩ := h
  simp only [eval, Option.bind_eq_some_iff, Option.map_eq_some_iff] at e
  obtain ⟨⟨r1, st1⟩, e1, ⟨r2', st2⟩, e2, x, e3, y, e4, r3, e5, e6⟩ := e
  refine ⟨g, st, r1, st1, R, e1, fun v g1 H1 R1 E1 O1 => ⟨g1, st1, r2', st2, R1, e2, fun u g2 H2 R2 E2 O2 => ?_⟩⟩
  refine hs R2 ((O1.ext E2).vw R2 e3) (O2.vw R2 e4) e5 fun w g3 H3 R3 E3 O3 => ?_
  split at e6
  · simp only [Option.bind_eq_some_iff, Option.map_eq_some_iff] at e6
    obtain ⟨⟨r4, st4⟩, e7, z, e8, y', e9, r5, e10, e11⟩ := e6
    cases e11
    have O3 : Dt g3.Z w (.bool true) := O3
    cases O3
    refine ⟨true, rfl, L2.iteT ⟨g3, st2, r4, st4, R3, e7, fun t g4 H4 R4 E4 O4 => ?_⟩⟩
    exact hs' R4 ((O2.ext (E3.trans E4)).vw R4 e9) (O4.vw R4 e8) e10 (weakPost (((E1.trans E2).trans E3).trans E4) k)
  · cases e6
    have O3 : Dt g3.Z w (.bool false) := O3
    cases O3
    exact ⟨false, rfl, L2.iteF (k _ g3 H3 R3 ((E1.trans E2).trans E3) (.bl false))⟩
  · cases e6
theorem lastMarks_ok {o1 o2 : CmpOp} {b c : Expr} (h : okE c = true) : lastMarks [o1, o2] [b, c] = false := by
  show behindInMarks o2 c = false
  exact marks_ok h
theorem de_chain (hu : X.A.units + 65 < cLine) {o1 o2 : Op2} {op1 op2 : CmpOp} {a b c : Expr} {ca cb cc : Ex} {pos : Pos} (h1 : cmpAst o1 = some op1) (h2 : cmpAst o2 = some op2) (ha : DE X sa a (eval Γ ca)) (hb : DE X sa b (eval Γ cb)) (hc : DE X sa c (eval Γ cc)) :
    DE X sa (.Compare a [op1, op2] [b, c] pos) (eval Γ (.chain o1 o2 ca cb cc)) := by
  obtain ⟨r2, k1, k2⟩ := cmpR hu h1
  obtain ⟨r2', k3, k4⟩ := cmpR hu h2
  exact ⟨(L2.pe_chain k1 k3 ha.pe hb.pe hc.pe (lastMarks_ok hc.ok)).wk fun σ H Q h => rd_chain Γ k2 k4 h, (L2.pt_chain k1 k3 ha.pe hb.pe hc.pe (lastMarks_ok hc.ok)).wk fun σ H Q h => rd_chain Γ k2 k4 (tDT_tTest h), rfl⟩
theorem de_neg {a : Expr} {ca : Ex} {pos : Pos} (ha : DE X sa a (eval Γ ca)) : DE X sa (.UnaryOp .USub a pos) (eval Γ (.neg ca)) := by
  refine DE.val ((L2.pe_un L2.un_neg ha.pe).wk fun σ H Q ⟨g, st, r, st', R, e, k⟩ => ?_) rfl
  simp only [eval, Option.bind_eq_some_iff, Option.map_eq_some_iff] at e
  obtain ⟨⟨r1, st1⟩, e1, x, e2, r', e3, e4⟩ := e
  cases e4
  refine ⟨g, st, r1, st1, R, e1, fun v g1 H1 R1 E1 O1 => ?_⟩
  cases x <;> simp only [evNeg, reduceCtorEq, Option.some.injEq] at e3
  subst e3
  exact ⟨_, (O1.vw R1 e2).int, k _ g1 H1 R1 E1 (.int _)⟩
/-! ### tests -/
theorem asBool_some {o : Option (Rv × St)} {b : Bool} {st : St} (h : asBool o = some (b, st)) : o = some (.dat (.bool b), st) := by
  unfold asBool at h
  split at h
  · cases h; rfl
  · cases h
/-- a test's reading where the answer is known by data -/
theorem tDT_of {ev : St → Option (Rv × St)} {g : Gh} {st st' : St} {σ : L2.St} {H : Hp} {b : Bool} {Q : Bool → Hp → Prop} (R : SR sa g st σ H) (e : ev st = some (.dat (.bool b), st')) (k : ∀ g' H', SR sa g' st' σ H' → Ext sa g H g' H' → Q b H') : tDT sa ev σ H Q := ⟨g, st, b, st', R, e, k⟩
theorem tD_of {ev : St → Option (Rv × St)} {g : Gh} {st st' : St} {σ : L2.St} {H : Hp} {r : Rv} {Q : VK} (R : SR sa g st σ H) (e : ev st = some (r, st')) (k : Post sa g st' σ H r Q) : tD sa ev σ H Q := ⟨g, st, r, st', R, e, k⟩
theorem ev_not {ca : Ex} {st st' : St} {r : Rv} (e : eval Γ (.not ca) st = some (r, st')) : ∃ c, r = .dat (.bool (!c)) ∧ eval Γ ca st = some (.dat (.bool c), st') := by
  simp only [eval, Option.map_eq_some_iff] at e
  obtain ⟨⟨c, st1⟩, e1, e4⟩ := e
  cases e4
  exact ⟨c, rfl, asBool_some e1⟩
theorem de_not {a : Expr} {ca : Ex} {pos : Pos} (ha : DE X sa a (eval Γ ca)) : DE X sa (.UnaryOp .Not a pos) (eval Γ (.not ca)) := by
  refine ⟨(L2.pe_not ha.pe).wk fun σ H Q ⟨g, st, r, st', R, e, k⟩ => ?_, (L2.pt_not ha.pt).wk fun σ H Q ⟨g, st, b, st', R, e, k⟩ => ?_, rfl⟩
  · obtain ⟨c, rfl, e1⟩ := ev_not Γ e
    refine ⟨g, st, _, st', R, e1, fun v g1 H1 R1 E1 O1 => ?_⟩
    have O1 : Dt g1.Z v (.bool c) := O1
    cases O1
    exact ⟨_, rfl, k _ g1 H1 R1 E1 (.bl _)⟩
  · obtain ⟨c, ec, e1⟩ := ev_not Γ e
    cases ec
    exact ⟨g, st, c, st', R, e1, fun g1 H1 R1 E1 => k g1 H1 R1 E1⟩
theorem ev_and {ca cb : Ex} {st st' : St} {r : Rv} (e : eval Γ (.and2 ca cb) st = some (r, st')) : ∃ c st1, eval Γ ca st = some (.dat (.bool c), st1) ∧ (if c = true then ∃ d, eval Γ cb st1 = some (.dat (.bool d), st') ∧ r = .dat (.bool d) else r = .dat (.bool false) ∧ st' = st1) := by
  simp only [eval, Option.bind_eq_some_iff] at e
  obtain ⟨⟨c, st1⟩, e1, e4⟩ := e
  refine ⟨c, st1, asBool_some e1, ?_⟩
  cases c with
  | true =>
    simp only [if_true, Option.map_eq_some_iff] at e4 ⊢
    obtain ⟨⟨d, st2⟩, e5, e6⟩ := e4
    cases e6
    exact ⟨d, asBool_some e5, rfl⟩
  | false =>
    simp only [Bool.false_eq_true, if_false] at e4 ⊢
    cases e4
    exact ⟨rfl, rfl⟩
theorem ev_or {ca cb : Ex} {st st' : St} {r : Rv} (e : eval Γ (.or2 ca cb) st = some (r, st')) : ∃ c st1, eval Γ ca st = some (.dat (.bool c), st1) ∧ (if c = true then r = .dat (.bool true) ∧ st' = st1 else ∃ d, eval Γ cb st1 = some (.dat (.bool d), st') ∧ r = .dat (.bool d)) := by
  simp only [eval, Option.bind_eq_some_iff] at e
  obtain ⟨⟨c, st1⟩, e1, e4⟩ := e
  refine ⟨c, st1, asBool_some e1, ?_⟩
  cases c with
  | true =>
    simp only [if_true] at e4 ⊢
    cases e4
    exact ⟨rfl, rfl⟩
  | false =>
    simp only [Bool.false_eq_true, if_false, Option.map_eq_some_iff] at e4 ⊢
    obtain ⟨⟨d, st2⟩, e5, e6⟩ := e4
    cases e6
    exact ⟨d, asBool_some e5, rfl⟩
/-- a chain of and, or: as a value and as a test -/
structure DB (X : Cx) (sa : SA) (e : Expr) (ev : St → Option (Rv × St)) : Prop where
  pe : PE X e (tD sa ev)
  pw : L2.PW X e (tDT sa ev)
theorem _root_.L2.PW.wk {X : Cx} {e : Expr} {t t' : TT} (h : L2.PW X e t) (f : ∀ σ H Q, t' σ H Q → t σ H Q) : L2.PW X e t' := ⟨fun wh pins s σ H Q I q => h.run wh pins s σ H Q I (f _ _ _ q)⟩
theorem tD_bool {ev : St → Option (Rv × St)} {g : Gh} {st st' : St} {σ : L2.St} {H : Hp} {b : Bool} {Q : VK} (R : SR sa g st σ H) (e : ev st = some (.dat (.bool b), st')) (k : ∀ g' H', SR sa g' st' σ H' → Ext sa g H g' H' → Q (.bl b) H') : tD sa ev σ H Q :=
  ⟨g, st, _, st', R, e, fun v g' H' R' E' O => by
    have O : Dt g'.Z v (.bool b) := O
    cases O
    exact k g' H' R' E'⟩
theorem db_one {op : BoolOp} {a : Expr} {ca : Ex} {pos : Pos} (ha : DE X sa a (eval Γ ca)) : DB X sa (.BoolOp op [a] pos) (eval Γ ca) := by
  refine ⟨L2.pe_one ha.pe, ?_⟩
  cases op with
  | And => exact L2.pw_and1 ha.pt
  | Or => exact L2.pw_or1 ha.pt
theorem db_and {a b : Expr} {rest : List Expr} {ca cb : Ex} {pos : Pos} (ha : DE X sa a (eval Γ ca)) (hb : DB X sa (.BoolOp .And (b :: rest) pos) (eval Γ cb)) : DB X sa (.BoolOp .And (a :: b :: rest) pos) (eval Γ (.and2 ca cb)) := by
  refine ⟨(L2.pe_and ha.pe hb.pe).wk fun σ H Q ⟨g, st, r, st', R, e, k⟩ => ?_, (L2.pw_and ha.pt hb.pw).wk fun σ H Q ⟨g, st, b, st', R, e, k⟩ => ?_⟩
  · obtain ⟨c, st1, e1, e2⟩ := ev_and Γ e
    refine tD_bool R e1 fun g1 H1 R1 E1 => ⟨c, rfl, ?_⟩
    cases c with
    | true =>
      simp only [if_true] at e2 ⊢
      obtain ⟨d, e3, rfl⟩ := e2
      exact tD_of R1 e3 (weakPost E1 k)
    | false =>
      simp only [Bool.false_eq_true, if_false] at e2 ⊢
      obtain ⟨rfl, rfl⟩ := e2
      exact k _ g1 H1 R1 E1 (.bl false)
  · obtain ⟨c, st1, e1, e2⟩ := ev_and Γ e
    refine tDT_of R e1 fun g1 H1 R1 E1 => ?_
    cases c with
    | true =>
      simp only [if_true] at e2 ⊢
      obtain ⟨d, e3, e4⟩ := e2
      cases e4
      exact tDT_of R1 e3 fun g2 H2 R2 E2 => k g2 H2 R2 (E1.trans E2)
    | false =>
      simp only [Bool.false_eq_true, if_false] at e2 ⊢
      obtain ⟨e3, rfl⟩ := e2
      cases e3
      exact k g1 H1 R1 E1
theorem db_or {a b : Expr} {rest : List Expr} {ca cb : Ex} {pos : Pos} (ha : DE X sa a (eval Γ ca)) (hb : DB X sa (.BoolOp .Or (b :: rest) pos) (eval Γ cb)) : DB X sa (.BoolOp .Or (a :: b :: rest) pos) (eval Γ (.or2 ca cb)) := by
  refine ⟨(L2.pe_or ha.pe hb.pe).wk fun σ H Q ⟨g, st, r, st', R, e, k⟩ => ?_, (L2.pw_or ha.pt hb.pw).wk fun σ H Q ⟨g, st, b, st', R, e, k⟩ => ?_⟩
  · obtain ⟨c, st1, e1, e2⟩ := ev_or Γ e
    refine tD_bool R e1 fun g1 H1 R1 E1 => ⟨c, rfl, ?_⟩
    cases c with
    | true =>
      simp only [if_true] at e2 ⊢
      obtain ⟨rfl, rfl⟩ := e2
      exact k _ g1 H1 R1 E1 (.bl true)
    | false =>
      simp only [Bool.false_eq_true, if_false] at e2 ⊢
      obtain ⟨d, e3, rfl⟩ := e2
      exact tD_of R1 e3 (weakPost E1 k)
  · obtain ⟨c, st1, e1, e2⟩ := ev_or Γ e
    refine tDT_of R e1 fun g1 H1 R1 E1 => ?_
    cases c with
    | true =>
      simp only [if_true] at e2 ⊢
      obtain ⟨e3, rfl⟩ := e2
      cases e3
      exact k g1 H1 R1 E1
    | false =>
      simp only [Bool.false_eq_true, if_false] at e2 ⊢
      obtain ⟨d, e3, e4⟩ := e2
      cases e4
      exact tDT_of R1 e3 fun g2 H2 R2 E2 => k g2 H2 R2 (E1.trans E2)
theorem DB.de {op : BoolOp} {es : List Expr} {pos : Pos} {ev : St → Option (Rv × St)} (h : DB X sa (.BoolOp op es pos) ev) : DE X sa (.BoolOp op es pos) ev := ⟨h.pe, h.pw.pt, rfl⟩
theorem de_ite {a b c : Expr} {ca cb cc : Ex} {pos : Pos} (hc : DE X sa c (eval Γ cc)) (ha : DE X sa a (eval Γ ca)) (hb : DE X sa b (eval Γ cb)) : DE X sa (.IfExp c a b pos) (eval Γ (.ite cc ca cb)) := by
  have rd : ∀ {σ : L2.St} {H : Hp} {Q : VK}, tD sa (eval Γ (.ite cc ca cb)) σ H Q → L2.tIf (tDT sa (eval Γ cc)) (tD sa (eval Γ ca)) (tD sa (eval Γ cb)) σ H Q := by
    intro σ H Q ⟨g, st, r, st', R, e, k⟩
    simp only [eval, Option.bind_eq_some_iff] at e
    obtain ⟨⟨d, st1⟩, e1, e4⟩ := e
    refine tDT_of R (asBool_some e1) fun g1 H1 R1 E1 => ?_
    cases d with
    | true =>
      simp only [if_true] at e4 ⊢
      exact tD_of R1 e4 (weakPost E1 k)
    | false =>
      simp only [Bool.false_eq_true, if_false] at e4 ⊢
      exact tD_of R1 e4 (weakPost E1 k)
  refine ⟨(L2.pe_ifExp hc.pt ha.pe hb.pe).wk fun σ H Q h => rd h, ⟨fun pins s σ H Q I q => ?_⟩, rfl⟩
  obtain ⟨g, st, b', st', R, e, k⟩ := q
  simp only [eval, Option.bind_eq_some_iff] at e
  obtain ⟨⟨d, st1⟩, e1, e4⟩ := e
  show wpAny _ _ (do if ← PySem.isTrue c X.env (PySem.eval c X.env) then PySem.isTrue a X.env (PySem.eval a X.env) else PySem.isTrue b X.env (PySem.eval b X.env)) _ _ s
  refine wpAny_bind (L2.thn (hc.pt.run pins s σ H (fun d' H1 => if d' = true then tDT sa (eval Γ ca) σ H1 Q else tDT sa (eval Γ cb) σ H1 Q) I (tDT_of R (asBool_some e1) fun g1 H1 R1 E1 => ?_)) fun d' s1 ⟨H1, I1, q1⟩ => ?_)
  · cases d with
    | true =>
      simp only [if_true] at e4 ⊢
      exact tDT_of R1 e4 fun g2 H2 R2 E2 => k g2 H2 R2 (E1.trans E2)
    | false =>
      simp only [Bool.false_eq_true, if_false] at e4 ⊢
      exact tDT_of R1 e4 fun g2 H2 R2 E2 => k g2 H2 R2 (E1.trans E2)
  · cases d' with
    | true =>
      simp only [if_true] at q1 ⊢
      exact ha.pt.run pins s1 σ H1 Q I1 q1
    | false =>
      simp only [Bool.false_eq_true, if_false] at q1 ⊢
      exact hb.pt.run pins s1 σ H1 Q I1 q1
/-! ### subscripts -/
theorem PE_or {e : Expr} {t t' : TE} (h : PE X e t) (h' : PE X e t') : PE X e fun σ H Q => t σ H Q ∨ t' σ H Q := ⟨fun pins s σ H Q I q => q.elim (h.run pins s σ H Q I) (h'.run pins s σ H Q I)⟩
theorem de_idx (hu : X.A.units + 1 < cLine) {a b : Expr} {ca cb : Ex} {pos : Pos} (ha : DE X sa a (eval Γ ca)) (hb : DE X sa b (eval Γ cb)) : DE X sa (.Subscript a b pos) (eval Γ (.idx ca cb)) := by
  refine DE.val ((PE_or (L2.pe_ix (L2.IxR.or L2.ix_list L2.ix_tup) ha.pe hb.pe (plainIx_ok hb.ok)) (L2.pe_dget hu ha.pe hb.pe (plainIx_ok hb.ok))).wk fun σ H Q ⟨g, st, r, st', R, e, k⟩ => ?_) rfl
  simp only [eval, Option.bind_eq_some_iff, Option.map_eq_some_iff] at e
  obtain ⟨⟨r1, st1⟩, e1, ⟨r2', st2⟩, e2, x, e3, y, e4, d, e5, e6⟩ := e
  cases e6
  by_cases hd : ∃ l, x = .dict l
  · obtain ⟨l, rfl⟩ := hd
    simp only [evIdx, Option.bind_eq_some_iff] at e5
    obtain ⟨q, e7, e8⟩ := e5
    split at e8
    rotate_left
    · cases e8
    rename_i hk
    rw [dctOf_is e7] at e3
    refine .inr ⟨g, st, r1, st1, R, e1, fun v g1 H1 R1 E1 O1 => ⟨g1, st1, r2', st2, R1, e2, fun u g2 H2 R2 E2 O2 => ?_⟩⟩
    have V1 := (O1.ext E2).vw R2 e3
    have V2 := O2.vw R2 e4
    obtain ⟨ad, o, rfl, rd, dk⟩ := V1.dct R2.sub
    obtain ⟨r, g1', g2', _⟩ := dget_of R2.sub dk rd (V2.key hk) hk
    rcases g2' with ⟨w, e, rfl, f1, f2⟩ | ⟨_, f1⟩
    · rw [e8] at f1
      cases f1
      exact ⟨ad, w, rfl, g1', k _ g2 H2 R2 (E1.trans E2) f2⟩
    · rw [e8] at f1; cases f1
  refine .inl ⟨g, st, r1, st1, R, e1, fun v g1 H1 R1 E1 O1 => ⟨g1, st1, r2', st2, R1, e2, fun u g2 H2 R2 E2 O2 => ?_⟩⟩
  have V1 := (O1.ext E2).vw R2 e3
  have V2 := O2.vw R2 e4
  have atI_get : ∀ {vs : List V} {ds : List D} {i : Int}, DtAll g2.Z vs ds → L2.atI ds i = some d → ∃ v, L2.atI vs i = some v ∧ Dt g2.Z v d := by
    intro vs ds i h1 h2
    unfold L2.atI at h2 ⊢
    rw [h1.len]
    cases q : L2.ixN ds.length i with
    | none => rw [q] at h2; cases h2
    | some j =>
      rw [q] at h2
      exact h1.get h2
  unfold evIdx at e5
  split at e5
  · obtain ⟨a', vs, rfl, h1, h2⟩ := V1.lst R2.sub
    obtain ⟨w, h3, h4⟩ := atI_get h2 e5
    exact .inl ⟨a', vs, _, w, rfl, V2.int, SqL.of h1, h3, k _ g2 H2 R2 (E1.trans E2) h4⟩
  · obtain ⟨a', vs, rfl, h1, h2⟩ := V1.tup
    obtain ⟨w, h3, h4⟩ := atI_get h2 e5
    exact .inr ⟨a', vs, _, w, rfl, V2.int, SqT.of (R2.sub.at h1), h3, k _ g2 H2 R2 (E1.trans E2) h4⟩
  · exact absurd ⟨_, rfl⟩ hd
  · cases e5
end
end Pf

set_option maxRecDepth 100000
/-! Pf5: defs that raise nothing, called where no built-in is at work (so repr is known). -/
namespace Pf
open PySem PySem.Spec PyProof.Rows
open L2 (V Hp HO upd upd_same upd_ne Same SqL SqT Dp DpAll Key Vals Cx Inv OpR R2 VK PE PT PA PS PSs TE TT TA TS RelV EP Vis Gl Room Env0 CE Binds Fun FnScope defBody defScope defArgs cxOf start CX0 E0 Only)

abbrev Sq := List V → Hp → VK → Prop
/-- a def that keeps the promise sp, raising nothing -/
structure FnG (P : Program) (w : World) (K : PySem.W.Frag) (mg : Str → Option Value) (base : Heap) (k : Nat) (f : Addr) (fd : FuncData) (ps : List Str) (sp : Sq) : Prop where
  len : ∀ vs H Q, sp vs H Q → vs.length = ps.length
  run : ∀ (A : Around) (outer : List Env) (s : Shared) (H : Hp) (us : List Value) (vs : List V) (Q : VK), Room k A → A.guards = some [] → Env0 P w K mg base A outer s H → BindsTo s fd ⟨us, []⟩ (ps.zip us) → Vals vs us → sp vs H Q →
    codeAny (model P w) A (.call (.ref f) ⟨us, []⟩) (fun r s' => ∃ u, r = .ok (.ret u) ∧ CE outer P w H s Q u s') s
section
variable {P : Program} {w : World} {K : PySem.W.Frag} {mg : Str → Option Value} {base : Heap} {f : Addr} {fd : FuncData} {ps : List Str} {sp : Sq}
theorem FnG.mono {j k : Nat} (F : FnG P w K mg base j f fd ps sp) (h : j ≤ k) : FnG P w K mg base k f fd ps sp :=
  ⟨F.len, fun A outer s H us vs Q r => F.run A outer s H us vs Q (r.mono h)⟩
/-- from a def of the text, by its body -/
theorem okG {x qual : Str} {st : Stmt} {N : List Str} {k : Nat} (F : Fun K x qual st f fd) (S : FnScope N ps (defScope st)) (len : ∀ vs H Q, sp vs H Q → vs.length = ps.length)
    (body : ∀ (cdv : Value) (A : Around) (outer : List Env) (s : Shared) (H : Hp) (vs : List V) (Q : VK), Room k (A.deeper (envOfC qual (defScope st) s.heap.objs.size f cdv)) → A.guards = some [] → sp vs H Q →
      ∃ t, PSs (cxOf CX0 P w K mg base N qual (defScope st) f cdv A outer s H E0).nox (defBody st) t ∧ t { nx := fun _ H' => Q .non H', rt := Q } (start N vs) H) : FnG P w K mg base (k + 1) f fd ps sp := by
  obtain ⟨oc, od, kV, doc, pm, an, cdv, ct, osl, hfd, lk, hcd⟩ := F.ex
  subst hfd
  refine ⟨len, fun A outer s H us vs Q hr hg e0 hb rv hs => ?_⟩
  have kin : K.In s.heap := e0.mod.kin.keeps fun b o e => (e0.bs b o e).1
  have lim : s.heap.NoLimit := e0.mod.nolimit.keeps fun b o e => (e0.bs b o e).1
  have kinds : ∀ y ∈ ps.zip us, (defScope st).names.lookup y.1 = some .local ∨ ((defScope st).names.lookup y.1 = some .cell ∧ ((cellsFrom (s.heap.objs.size + 1) (defScope st).names []).lookup y.1).isSome = true) := by
    rintro ⟨n, v⟩ hy
    exact (S.par n (List.of_mem_zip hy).1).imp id fun q => ⟨q, PySem.W.cellsFrom_some _ _ _ (.inl q)⟩
  refine codeAny_call_function hr.depth (kin _ _ lk) rfl S.co S.gen rfl (PySem.W.codeRec_of kin hcd) (hb _ _ _ _ ?_)
  refine wpAny_newFunctionEnv_cells S.kind kinds fun env he s1 x => ?_
  subst he
  obtain ⟨t, ht, hq⟩ := body cdv A outer s H vs Q (hr.deeper _) hg hs
  have I := L2.inv_start (CX := CX0) (E := E0) (cd := cdv) (f := f) (qual := qual) S hr.hd e0 (len _ _ _ hs) rv x
  refine ⟨lim.keeps x.toInCall.keep, codeAny_func (wpAny_mono (ht.run [] s1 (start N vs) H _ (I.wish _) hq) (fun fl s' out => ?_) fun _ _ z => z.elim)⟩
  · cases fl with
    | ret u =>
      obtain ⟨v, _, H', J, r, q⟩ := out
      exact ⟨u, rfl, v, H', J.os, J.bare, J.base, J.hok, r, q⟩
    | next =>
      obtain ⟨_, H', J, q⟩ := out
      exact ⟨.none, rfl, .non, H', J.os, J.bare, J.base, J.hok, rfl, q⟩
    | brk =>
      obtain ⟨_, _, _, q⟩ := out
      exact q.elim
    | cont =>
      obtain ⟨_, _, _, q⟩ := out
      exact q.elim
end
section
variable {X : Cx} {k : Nat} {f : Addr} {fd : FuncData} {ps : List Str} {sp : Sq} {x : Str} {p pos : Pos} {e : Expr} {es : List Expr} {t : TA}
/-- f(e, ..) -/
theorem pe_callG (F : FnG X.prog X.w X.K X.mg X.base k f fd ps sp) (hr : Room k X.A) (hG : X.A.guards = some []) (hg : Gl X x) (hm : X.mg x = some (.ref f)) (hk : PySem.W.keepIn X.K (.ref f) = true) (hb : Binds X.K fd ps [])
    (ha : PA X (e :: es) t) (hdb : (x == ("__debug__" : Str)) = false) (he : starEach (e :: es) X.env = (false, PySem.eval e X.env) :: starEach es X.env) (hpl : (backTo pos (starEach es X.env)).any (·.1) = false) :
    PE X (.Call (.Name x p) (e :: es) [] pos) (fun σ H Q => t σ H fun vs H1 => sp vs H1 Q) := by
  refine ⟨fun pins s σ H Q I h => wpAny_Call_Name_kw (L2.ld_glob I hg hm ?_ hdb)⟩
  refine PySem.W.callWith_K (h₀ := X.base) I.ok.mod.kin hk (L2.thn (ha.run pos pins s σ H _ I h) fun us s1 ⟨vs, H1, I1, r, q⟩ => ⟨I1.kIn, ?_⟩) he hpl
  have hl : (us ++ []).length = ps.length := by
    rw [List.append_nil, ← r.length]
    exact F.len _ _ _ q
  have bd := hb s1 us I1.kIn hl
  rw [List.append_nil] at bd
  refine wpAny_call (codeAny_mono (F.run X.A X.stack s1 H1 us vs Q hr hG I1.env0 bd r q) fun r' s' ⟨u, e1, ce⟩ => ?_)
  subst e1
  exact I1.after ce
end
end Pf

set_option maxRecDepth 100000
/-! Pf6: calls of defs. -/
namespace Pf
open PySem PySem.Spec PyProof.Rows
open L2 (V Hp HO upd upd_same upd_ne Same SqL SqT Dp DpAll Key Vals Cx Inv OpR R2 VK PE PT PA PS PSs TE TT TA TS RelV EP Vis Gl Room Env0 CE Binds Fun FnScope defBody defScope defArgs cxOf start CX0 E0 Only)

/-- what a def hands back; H: the heap at the call -/
def OutOk (H : Hp) (Z' : Hp) (H' : Hp) (v : V) : Rv → Prop
  | .dat d => Dt Z' v d
  | .lst xs => ∃ p vs, v = .ref p ∧ H p = none ∧ H' p = some (.lst vs) ∧ DtAll Z' vs xs ∧ Z' p = none
  | .dct T kvs => ∃ p o, v = .ref p ∧ H p = none ∧ H' p = some o ∧ DkOk Z' T o kvs ∧ Z' p = none
  | _ => False
inductive ArgAll (sa : SA) (Z : Hp) : List V → List D → Prop
  | nil : ArgAll sa Z [] []
  | dat {v vs d ds} : Dt Z v d → ArgAll sa Z vs ds → ArgAll sa Z (v :: vs) (d :: ds)
  | src {s0 c0 vs ds} : sa = some (s0, c0) → ArgAll sa Z vs ds → ArgAll sa Z (.ref s0 :: vs) (srcD :: ds)
theorem ArgAll.len {sa : SA} {Z : Hp} : ∀ {vs : List V} {ds : List D}, ArgAll sa Z vs ds → vs.length = ds.length
  | _, _, .nil => rfl
  | _, _, .dat _ t => congrArg (· + 1) t.len
  | _, _, .src _ t => congrArg (· + 1) t.len
/-- frozen objects are added at new addresses alone -/
def Grows (Z H Z' H' : Hp) : Prop := Same Z Z' ∧ Sub Z' H' ∧ ∀ a, Ownd (H a) → Z' a = Z a
/-- the promise of a def without a source, of n parameters -/
def spP (n : Nat) (F : List D → Option Rv) : Sq := fun vs H Q => ∃ Z ds r, vs.length = n ∧ Sub Z H ∧ DtAll Z vs ds ∧ F ds = some r ∧ ∀ v Z' H', Grows Z H Z' H' → Same H H' → OutOk H Z' H' v r → Q v H'
def noW : Addr → Option Nat := fun _ => none
/-- .. with the source -/
def spS (n : Nat) (F : List D → Src → Option (Rv × Src)) : Sq := fun vs H Q => ∃ Z s0 c0 s ds r s', vs.length = n ∧ Sub Z H ∧ SrcAt s0 c0 s ⟨Z, noW⟩ H ∧ ArgAll (some (s0, c0)) Z vs ds ∧ F ds s = some (r, s') ∧
  ∀ v Z' H', Grows Z H Z' H' → (∀ a o, H a = some o → a ≠ s0 → a ≠ c0 → H' a = some o) → SrcAt s0 c0 s' ⟨Z', noW⟩ H' → OutOk H Z' H' v r → Q v H'

/-- a def that stands at a name -/
structure Here (X : Cx) (x : Str) (n : Nat) (sp : Sq) : Prop where
  ex : ∃ k f fd ps, FnG X.prog X.w X.K X.mg X.base k f fd ps sp ∧ Room k X.A ∧ X.mg x = some (.ref f) ∧ PySem.W.keepIn X.K (.ref f) = true ∧ Binds X.K fd ps []

section
variable {X : Cx} {sa : SA} (Γ : Nat → Fn)
theorem stars_ok : ∀ {es : List Expr} {env : Env}, (∀ e ∈ es, okE e = true) → ∀ pos, (backTo pos (starEach es env)).any (·.1) = false
  | [], _, _, _ => rfl
  | e :: es, env, h, pos => by
    rw [starEach_ok (h e (by simp))]
    show (false || (backTo pos (starEach es env)).any (·.1)) = false
    rw [stars_ok (fun x hx => h x (by simp [hx])) pos]
    rfl
/-- arguments none of which is starred -/
structure DAf (X : Cx) (sa : SA) (es : List Expr) (ev : St → Option (List D × St)) : Prop where
  pa : PA X es (tDA sa ev)
  ok : ∀ e ∈ es, okE e = true
  len : ∀ st ds st', ev st = some (ds, st') → ds.length = es.length
theorem daf_nil : DAf X sa [] (evals Γ .nil) := by
  refine ⟨da_nil Γ, fun _ h => by simp at h, fun st ds st' e => ?_⟩
  simp only [evals] at e
  cases e
  rfl
theorem daf_cons {e : Expr} {es : List Expr} {c : Ex} {cs : Exs} (h : DE X sa e (eval Γ c)) (hs : DAf X sa es (evals Γ cs)) : DAf X sa (e :: es) (evals Γ (.cons c cs)) :=
  ⟨da_cons Γ h hs.pa, fun x hx => (List.mem_cons.mp hx).elim (fun e => e ▸ h.ok) (hs.ok x), fun st ds st' e => by
    simp only [evals, Option.bind_eq_some_iff, Option.map_eq_some_iff] at e
    obtain ⟨_, _, _, _, ⟨ds', st3⟩, e3, e4⟩ := e
    cases e4
    exact congrArg (· + 1) (hs.len _ _ _ e3)⟩
def tDAa (sa : SA) (ev : St → Option (List D × St)) : TA := fun σ H Q => ∃ g st ds st', SR sa g st σ H ∧ ev st = some (ds, st') ∧ ∀ vs g' H', SR sa g' st' σ H' → Ext sa g H g' H' → ArgAll sa g'.Z vs ds → Q vs H'
structure DAa (X : Cx) (sa : SA) (es : List Expr) (ev : St → Option (List D × St)) : Prop where
  pa : PA X es (tDAa sa ev)
  ok : ∀ e ∈ es, okE e = true
  len : ∀ st ds st', ev st = some (ds, st') → ds.length = es.length
theorem daa_nil : DAa X sa [] (evala Γ .nil) := by
  refine ⟨L2.pa_nil.wk fun σ H Q ⟨g, st, ds, st', R, e, k⟩ => ?_, fun _ h => by simp at h, fun st ds st' e => ?_⟩
  · simp only [evala] at e
    cases e
    exact k [] g H R .refl .nil
  · simp only [evala] at e
    cases e
    rfl
theorem ArgAll.mono {Z Z' : Hp} (e : Same Z Z') : ∀ {vs : List V} {ds : List D}, ArgAll sa Z vs ds → ArgAll sa Z' vs ds
  | _, _, .nil => .nil
  | _, _, .dat h t => .dat (dtMono e _ h) (t.mono e)
  | _, _, .src h t => .src h (t.mono e)
theorem daa_cons {e : Expr} {es : List Expr} {c : Ex} {cs : Exs} (h : DE X sa e (eval Γ c)) (hs : DAa X sa es (evala Γ cs)) : DAa X sa (e :: es) (evala Γ (.cons c cs)) := by
  refine ⟨(L2.pa_cons h.pe hs.pa (starEach_ok h.ok)).wk fun σ H Q ⟨g, st, ds, st', R, e, k⟩ => ?_, fun x hx => (List.mem_cons.mp hx).elim (fun e => e ▸ h.ok) (hs.ok x), fun st ds st' e => ?_⟩
  rotate_left
  · simp only [evala, Option.bind_eq_some_iff, Option.map_eq_some_iff] at e
    obtain ⟨_, _, _, _, ⟨ds', st3⟩, e3, e4⟩ := e
    cases e4
    exact congrArg (· + 1) (hs.len _ _ _ e3)
  simp only [evala, Option.bind_eq_some_iff, Option.map_eq_some_iff] at e
  obtain ⟨⟨r1, st1⟩, e1, ⟨d, st2⟩, e2, ⟨ds', st3⟩, e3, e4⟩ := e
  cases e4
  refine ⟨g, st, r1, st1, R, e1, fun v g1 H1 R1 E1 O1 => ?_⟩
  have key : (∃ s0 c0, sa = some (s0, c0) ∧ v = .ref s0 ∧ d = srcD ∧ st2 = st1) ∨ frz st1 r1 = some (d, st2) := by
    cases r1 with
    | src =>
      obtain ⟨s0, c0, h1, h2⟩ := O1
      cases e2
      exact .inl ⟨s0, c0, h1, h2, rfl, rfl⟩
    | _ => exact .inr e2
  rcases key with ⟨s0, c0, h1, rfl, rfl, rfl⟩ | e2
  · exact ⟨g1, st2, ds', st3, R1, e3, fun vs g3 H3 R3 E3 O3 => k _ g3 H3 R3 (E1.trans E3) (.src h1 O3)⟩
  · obtain ⟨g2, R2, E2, z2, O2⟩ := frz_ok R1 E1 O1 e2
    exact ⟨g2, st2, ds', st3, R2, e3, fun vs g3 H3 R3 E3 O3 => k (v :: vs) g3 H3 R3 (E2.trans E3) (.dat (dtMono E3.z _ O2) O3)⟩

/-- the caller's state behind a call that leaves all as it was but new objects -/
theorem SR.grown {g : Gh} {st : St} {σ : L2.St} {H H' Z' : Hp} (R : SR sa g st σ H) (G : Grows g.Z H Z' H') (S : Same H H') : SR sa ⟨Z', g.w⟩ st σ H' ∧ Ext sa g H ⟨Z', g.w⟩ H' := by
  obtain ⟨z1, z2, z3⟩ := G
  have there : ∀ a, H a ≠ none → H' a ≠ none := fun a h => by
    cases q : H a with
    | none => exact absurd q h
    | some o => rw [S a o q]; exact fun z => nomatch z
  refine ⟨⟨z2, fun a i h => ⟨?_, (R.own a i h).2.keep fun o q => S a o q⟩, R.len, fun j => (R.slot j).mono z1 fun a vs q1 q2 => ⟨S a _ q1, q2⟩, R.src.keep fun a o t q1 q2 q3 => ⟨S a o q1, ?_, q3⟩⟩, ⟨z1, fun a o q n _ => ⟨S a o q, n, fun t z => ?_⟩, there⟩⟩
  · exact (z3 a (R.own a i h).2).trans (R.own a i h).1
  · exact (z3 a (by rw [q1]; exact ⟨(fun z => nomatch z), fun vs z => t vs (Option.some.inj z)⟩)).trans q2
  · exact (z3 a (by rw [q]; exact ⟨(fun z => nomatch z), fun vs z => t vs (Option.some.inj z)⟩)).trans z
theorem OutOk.rv {g : Gh} {st : St} {σ : L2.St} {H H' Z' : Hp} {v : V} {r : Rv} (R : SR sa g st σ H) (h : OutOk H Z' H' v r) : RvOk sa H ⟨Z', g.w⟩ σ H' v r := by
  cases r with
  | dat d => exact h
  | view i => exact h.elim
  | src => exact h.elim
  | lst xs =>
    obtain ⟨p, vs, h1, h2, h3, h4, h5⟩ := h
    obtain ⟨_, _, _, hw, hn⟩ := R.new (o := .lst []) h2
    exact ⟨p, vs, h1, h2, h3, h4, h5, hw, hn⟩
  | dct T kvs =>
    obtain ⟨p, vs, h1, h2, h3, h4, h5⟩ := h
    obtain ⟨_, _, _, hw, hn⟩ := R.new (o := .lst []) h2
    exact ⟨p, vs, h1, h2, h3, h4, h5, hw, hn⟩
theorem de_call {x : Str} {i n : Nat} {F : List D → Option Rv} {e : Expr} {es : List Expr} {cs : Exs} {p pos : Pos} (hF : Here X x n (spP n F)) (hi : Γ i = .pure F) (hG : X.A.guards = some []) (hg : Gl X x)
    (ha : DAf X sa (e :: es) (evals Γ cs)) (hl : (e :: es).length = n) (hdb : (x == ("__debug__" : Str)) = false) : DE X sa (.Call (.Name x p) (e :: es) [] pos) (eval Γ (.call i cs)) := by
  obtain ⟨k, f, fd, ps, FG, hr, hm, hk, hb⟩ := hF.ex
  refine DE.val ((pe_callG FG hr hG hg hm hk hb ha.pa hdb (starEach_ok (ha.ok e (by simp))) (stars_ok (fun y hy => ha.ok y (by simp [hy])) pos)).wk fun σ H Q ⟨g, st, r, st', R, ee, q⟩ => ?_) rfl
  simp only [eval, Option.bind_eq_some_iff, Option.map_eq_some_iff] at ee
  obtain ⟨⟨ds, st1⟩, e1, r', e2, e3⟩ := ee
  cases e3
  rw [hi] at e2
  refine ⟨g, st, ds, st1, R, e1, fun vs g1 H1 R1 E1 O1 => ?_⟩
  refine ⟨g1.Z, ds, _, by rw [O1.len, ha.len _ _ _ e1]; exact hl, R1.sub, O1, e2, fun v Z' H' G S O => ?_⟩
  obtain ⟨R2, E2⟩ := R1.grown G S
  exact q v _ H' R2 (E1.trans E2) ((O.rv R1).weak E1.there)
/-- the caller's state behind a call that has drawn -/
theorem SR.drawn {g : Gh} {st : St} {σ : L2.St} {H H' Z' : Hp} {s0 c0 : Addr} {s s' : Src} (R : SR (some (s0, c0)) g st σ H) (hs : SrcAt s0 c0 s g H) (G : Grows g.Z H Z' H')
    (S : ∀ a o, H a = some o → a ≠ s0 → a ≠ c0 → H' a = some o) (hs' : SrcAt s0 c0 s' ⟨Z', noW⟩ H') : SR (some (s0, c0)) ⟨Z', g.w⟩ ⟨st.env, some s'⟩ σ H' ∧ Ext (some (s0, c0)) g H ⟨Z', g.w⟩ H' := by
  obtain ⟨z1, z2, z3⟩ := G
  have there : ∀ a, H a ≠ none → H' a ≠ none := fun a h => by
    by_cases h1 : a = s0
    · rw [h1, hs'.d]; exact fun z => nomatch z
    · by_cases h2 : a = c0
      · rw [h2, hs'.c]; exact fun z => nomatch z
      · cases q : H a with
        | none => exact absurd q h
        | some o => rw [S a o q h1 h2]; exact fun z => nomatch z
  have own : ∀ a i, g.w a = some i → a ≠ s0 ∧ a ≠ c0 := fun a i h => ⟨fun e => (by rw [e, hs.ws] at h; cases h), fun e => (by rw [e, hs.wc] at h; cases h)⟩
  refine ⟨⟨z2, fun a i h => ⟨?_, (R.own a i h).2.keep fun o q => S a o q (own a i h).1 (own a i h).2⟩, R.len, fun j => (R.slot j).mono z1 fun a vs q1 q2 => ⟨S a _ q1 (own a j q2).1 (own a j q2).2, q2⟩, .inr ⟨s0, c0, s', rfl, rfl, hs'.d, hs'.c, hs'.ne, hs'.zs, hs'.zc, hs.ws, hs.wc⟩⟩,
    ⟨z1, fun a o q n ns => ⟨S a o q (ns s0 c0 rfl).1 (ns s0 c0 rfl).2, n, fun t z => ?_⟩, there⟩⟩
  · exact (z3 a (R.own a i h).2).trans (R.own a i h).1
  · exact (z3 a (by rw [q]; exact ⟨(fun z => nomatch z), fun vs z => t vs (Option.some.inj z)⟩)).trans z
theorem de_callS {x : Str} {i n : Nat} {F : List D → Src → Option (Rv × Src)} {e : Expr} {es : List Expr} {cs : Exs} {p pos : Pos} (hF : Here X x n (spS n F)) (hi : Γ i = .srcd F) (hG : X.A.guards = some []) (hg : Gl X x)
    (ha : DAa X sa (e :: es) (evala Γ cs)) (hl : (e :: es).length = n) (hdb : (x == ("__debug__" : Str)) = false) : DE X sa (.Call (.Name x p) (e :: es) [] pos) (eval Γ (.callS i cs)) := by
  obtain ⟨k, f, fd, ps, FG, hr, hm, hk, hb⟩ := hF.ex
  refine DE.val ((pe_callG FG hr hG hg hm hk hb ha.pa hdb (starEach_ok (ha.ok e (by simp))) (stars_ok (fun y hy => ha.ok y (by simp [hy])) pos)).wk fun σ H Q ⟨g, st, r, st', R, ee, q⟩ => ?_) rfl
  simp only [eval, Option.bind_eq_some_iff, Option.map_eq_some_iff] at ee
  obtain ⟨⟨ds, st1⟩, e1, s, e4, ⟨r', s'⟩, e2, e3⟩ := ee
  cases e3
  rw [hi] at e2
  refine ⟨g, st, ds, st1, R, e1, fun vs g1 H1 R1 E1 O1 => ?_⟩
  have hs := R1.src
  rcases hs with ⟨_, hs⟩ | ⟨s0, c0, t, rfl, hs, sat⟩
  · rw [hs] at e4; cases e4
  rw [hs] at e4
  cases e4
  refine ⟨g1.Z, s0, c0, s, ds, r', s', by rw [O1.len, ha.len _ _ _ e1]; exact hl, R1.sub, ⟨sat.d, sat.c, sat.ne, sat.zs, sat.zc, rfl, rfl⟩, O1, e2, fun v Z' H' G S hs' O => ?_⟩
  obtain ⟨R2, E2⟩ := R1.drawn sat G S hs'
  exact q v _ H' R2 (E1.trans E2) ((O.rv R1).weak E1.there)
end
end Pf

set_option maxRecDepth 100000
/-! Pf6s: sorting also a list of the empty tuple alone. -/
namespace PySem.W
open PySem PySem.Calls PyProof.Rows
def SortZ (ds : List PyData) : Prop := Sortable ds ∨ ds = [.tuple []]
section
variable {prog : Program} {w : World} {A : Around} {s : Shared} {E : Value → Shared → Prop} {β : Type} {vs : List Value} {bs : List β} {enc : β → PyData} {R : Value → β → Prop}
theorem sortsAtZ {us : List Value} {ds : List PyData} (each : EachIs (fun v d => ∃ as, Reads s.heap v d as) us ds) (al : AllAlike ds) (so : SortZ ds) (room : ∀ d, d ∈ ds → A.units + d.depth < cLine) : SortsAt prog w A s (dataKind s.heap ds) us := by
  rcases so with so | rfl
  · exact .data each al so room
  · have one : us.length = 1 := each.length
    refine ⟨fun u hu => ?_, tuples' true, fun E x y a b Q kx ky q => ?_, fun two => absurd two (by omega)⟩
    · obtain ⟨d, m, as, r⟩ := each.left u hu
      exact ⟨_, dataKind_some al m r⟩
    · obtain ⟨d1, as1, m1, r1, rfl⟩ := dataKind_inv kx
      obtain ⟨d2, as2, m2, r2, rfl⟩ := dataKind_inv ky
      rw [List.mem_singleton] at m1 m2
      subst m1 m2
      have q' : Q (dataLt (.tuple []) (.tuple [])) s := q
      rw [dataLt_tuple] at q'
      have hr := room _ (List.mem_singleton.mpr rfl)
      cases r1 with
      | @tuple l o xs n _ _ h1 h2 h3 h4 =>
        cases r2 with
        | @tuple l' o' ys n' _ _ k1 k2 k3 k4 =>
          have n1 : xs.size = 0 := by simpa using SeqAt.ReadsAll.length _ _ _ h4
          have n2 : ys.size = 0 := by simpa using SeqAt.ReadsAll.length _ _ _ k4
          exact kat_lt h1 h3 k1 k3 (katLex_alike [] [] 0 _ _ _ _ h4 k4 rfl (by have : PyData.depthAll [] = 0 := rfl; rw [this]; omega) (fun _ _ x r t ex => nomatch ex) (by rw [n1, n2]; rfl) q')
theorem roomZ (hu : ∀ b, b ∈ bs → A.units + (enc b).depth < cLine) : ∀ d, d ∈ bs.map enc → A.units + d.depth < cLine := by
  intro d m
  obtain ⟨b, mb, e⟩ := List.mem_map.mp m
  exact e ▸ hu b mb
theorem sortedZ {l : Addr} {Q : Value → Shared → Prop} (isl : s.heap.IsList l vs.toArray) (e : EachIs R vs bs) (er : EachIs (fun v b => ∃ as, Reads s.heap v (enc b) as) vs bs) (al : AllAlike (bs.map enc)) (so : SortZ (bs.map enc)) (sz : bs.length ≤ sizeLine)
    (room : ∀ b, b ∈ bs → A.units + 2 + (enc b).depth < cLine) (k : ∀ out, out.length = bs.length → EachIs R out (bs.mergeSort (dataLe false enc)) → Q (.ref (s.heap.objs.size + 1)) { s with heap := sortedAll s.heap vs (List.toArray out) }) :
    wpAny (model prog w) A (call (.builtin "sorted") [.ref l]) Q E s := by
  let s' : Shared := { s with heap := sortingHeap (copyHeap s.heap vs) (s.heap.objs.size + 1) vs }
  have er2 : EachIs (fun v b => ∃ as, Reads s'.heap v (enc b) as) vs bs := er.mono fun _ _ ⟨as, r⟩ => ⟨as, PyProof.Rows.Reads.keeps (fun _ _ => sorting_copy_old) r⟩
  have em := each_map (R := fun v d => ∃ as, Reads s'.heap v d as) enc er2
  have S : SortsAt prog w A.in1.in1 s' (dataKind s'.heap (bs.map enc)) vs := sortsAtZ (s := s') em al so (roomZ room)
  have hl : vs.length = bs.length := e.length
  exact sorted_vals isl S (by rw [hl]; exact sz) (k _ ((sortVals_length false rfl).trans hl) (sortVals_data false e er2 al))
theorem list_sortZ {a : Addr} {n : Nat} {Q : Value → Shared → Prop} (ho : s.heap.get? a = some (seqObj "list" vs.toArray n)) (e : EachIs R vs bs) (er : EachIs (fun v b => ∃ as, Reads s.heap v (enc b) as ∧ a ∉ as) vs bs) (al : AllAlike (bs.map enc)) (so : SortZ (bs.map enc)) (sz : bs.length ≤ sizeLine)
    (room : ∀ b, b ∈ bs → A.units + 1 + (enc b).depth < cLine) (k : ∀ out, out.length = bs.length → EachIs R out (bs.mergeSort (dataLe false enc)) → Q .none { s with heap := sortedHeap s.heap a vs (List.toArray out) }) :
    wpAny (model prog w) A (call (.builtin "list.sort") [.ref a]) Q E s := by
  let s' : Shared := { s with heap := sortingHeap s.heap a vs }
  have er2 : EachIs (fun v b => ∃ as, Reads s'.heap v (enc b) as) vs bs := each_keepBut (h' := s'.heap) (fun _ _ hb q => sortingHeap_old hb q) (fun o q => by rw [ho] at q; rw [← Option.some.inj q]) al er
  have em := each_map (R := fun v d => ∃ as, Reads s'.heap v d as) enc er2
  have S : SortsAt prog w A.in1 s' (dataKind s'.heap (bs.map enc)) vs := sortsAtZ (s := s') em al so (roomZ room)
  have hl : vs.length = bs.length := e.length
  refine wpAny_call_entry slot_list_sort ⟨_, ho, rfl⟩ entry_list_sort (list_sort_vals (κ := dataKind s'.heap (bs.map enc)) ho S (by rw [hl]; exact sz) ⟨.none, rfl, ?_⟩) (args_list_sort _)
  exact k _ ((sortVals_length false rfl).trans hl) (sortVals_data false e er2 al)
end
end PySem.W

set_option maxRecDepth 100000
/-! Pf7: built-ins by data. -/
namespace L2
open PySem PySem.Spec PyProof.Rows PySem.W
/-- sorted(xs), xs a list of data of one shape -/
def sortV (vs : List V) (ds : List PyData) : List V := ((vs.zip ds).mergeSort (dataLe false Prod.snd)).map Prod.fst
def rSortD (K : PySem.W.Frag) : List V → Hp → VK → Prop := fun xs H Q => ∃ a vs ds, xs = [V.ref a] ∧ SqL K H a vs ∧ DpAll K H vs ds ∧ AllAlike ds ∧ SortZ ds ∧ (∀ d ∈ ds, d.depth ≤ 60) ∧ ∀ p, H p = none → Q (.ref p) (upd H p (.lst (sortV vs ds)))
theorem dpAll_len {K : PySem.W.Frag} {H : Hp} : ∀ {vs : List V} {ds : List PyData}, DpAll K H vs ds → vs.length = ds.length
  | _, _, .nil => rfl
  | _, _, .cons _ t => congrArg (· + 1) (dpAll_len t)
theorem each_vals {X : Cx} {pins : List (Addr × Obj)} {σ : St} {H : Hp} {s : Shared} (I : Inv X pins σ H s) : ∀ {vs : List V} {ds : List PyData} {its : List Value}, DpAll X.K H vs ds → Vals vs its →
    EachIs (fun v (b : V × PyData) => RelV b.1 v) its (vs.zip ds) ∧ EachIs (fun v (b : V × PyData) => ∃ as, Reads s.heap v b.2 as) its (vs.zip ds)
  | _, _, _, .nil, .nil => ⟨.nil, .nil⟩
  | _, _, _, .cons h1 h2, .cons r1 r2 => by
    obtain ⟨a, b⟩ := each_vals I h2 r2
    exact ⟨.cons r1 a, .cons (Dp.reads I _ _ _ h1 r1) b⟩
theorem vals_each : ∀ {its : List Value} {bs : List (V × PyData)}, EachIs (fun v (b : V × PyData) => RelV b.1 v) its bs → Vals (bs.map Prod.fst) its
  | _, _, .nil => .nil
  | _, _, .cons h t => .cons h (vals_each t)
theorem zip_snd {K : PySem.W.Frag} {H : Hp} : ∀ {vs : List V} {ds : List PyData}, DpAll K H vs ds → (vs.zip ds).map Prod.snd = ds
  | _, _, .nil => rfl
  | _, _, .cons _ t => by
    rw [List.zip_cons_cons, List.map_cons, zip_snd t]
theorem call_sortD {X : Cx} (hu : X.A.units + 70 < cLine) : CallR X (.builtin "sorted") (rSortD X.K) := by
  intro pins s σ H xs us Q I r h
  obtain ⟨a, vs, ds, rfl, hs, hd, h1, h2, h3, q⟩ := h
  obtain ⟨its, rv, hl, hz⟩ := I.list hs
  rw [Vals.ref1 r]
  obtain ⟨e1, e2⟩ := each_vals I hd rv
  have ez : (vs.zip ds).map Prod.snd = ds := zip_snd hd
  have hlen : (vs.zip ds).length = vs.length := by rw [List.length_zip, dpAll_len hd, Nat.min_self]
  refine sortedZ (enc := Prod.snd) hl.isList e1 e2 (by rw [ez]; exact h1) (by rw [ez]; exact h2) (by rw [hlen]; exact hz) (fun b hb => ?_) fun out ho eo => ?_
  · have := h3 b.2 (by rw [← ez]; exact List.mem_map.mpr ⟨b, hb, rfl⟩)
    omega
  · obtain ⟨ep, he'⟩ := PyProof.Rows.sortedAll_at s.heap its out.toArray
    have hv := vals_each eo
    refine ⟨.ref _, upd H (s.heap.objs.size + 1) (.lst (sortV vs ds)), I.laid (t' := s.toks) (fun _ _ => PyProof.Rows.sortedAll_old) (Nat.le_succ _) ⟨?_, out, ep, hv, he'⟩, rfl, q _ (I.hok.fresh (Nat.le_succ _))⟩
    show (sortV vs ds).length ≤ sizeLine
    unfold sortV
    rw [hv.length, ho, hlen]
    exact hz
/-- repr(x) -/
def rRepr (K : PySem.W.Frag) : List V → Hp → VK → Prop := fun xs H Q => ∃ x d, xs = [x] ∧ Dp K H x d ∧ d.showable = true ∧ d.hasDict = false ∧ d.depth ≤ 60 ∧ d.shown.length ≤ sizeLine ∧ Q (.str d.shown) H
theorem call_repr {X : Cx} (hu : X.A.units + 70 < cLine) (hG : X.A.guards = some []) : CallR X (.builtin "repr") (rRepr X.K) := by
  intro pins s σ H xs us Q I r h
  obtain ⟨x, d, rfl, hx, h1, h2, h3, h4, q⟩ := h
  obtain ⟨u, rfl, ru⟩ := Vals.one r
  have fin : ∀ {h' : Heap} {k : Tok} {tk : Nat}, (∀ b o, s.heap.get? b = some o → h'.get? b = some o) → EP X pins σ Q (.str d.shown k) { s with heap := h', toks := tk } := fun hk => ⟨.str d.shown, H, I.kept hk, ⟨_, rfl⟩, q⟩
  have fin0 : ∀ {k : Tok} {tk : Nat} {z : Str}, z = d.shown → EP X pins σ Q (.str z k) { s with toks := tk } := fun e => by
    subst e
    exact fin (h' := s.heap) fun _ _ e => e
  obtain ⟨as, rd⟩ := Dp.reads I d x u hx ru
  cases hx with
  | non =>
    cases ru
    exact P.repr_of_none (fin0 PyData.shown_none.symm)
  | bl b =>
    cases ru
    exact P.repr_of_bool (fin0 (by rw [PyData.shown_bool]))
  | int i =>
    obtain ⟨t, rfl⟩ := ru
    exact P.repr_of_int (by simpa [PyData.showable] using h1) (fin0 (PyData.shown_int i).symm)
  | str z =>
    obtain ⟨t, rfl⟩ := ru
    rw [PyData.shown_str] at h4
    exact P.repr_of_str (fin0 (PyData.shown_str z).symm) h4
  | lst _ _ =>
    cases ru
    exact repr_of_reads' rd h1 (PyData.noDict_hsm h2) hG (by omega) (fun _ _ e => e) (fun h' u tk hk => fin hk) h4
  | tup _ _ =>
    cases ru
    exact repr_of_reads' rd h1 (PyData.noDict_hsm h2) hG (by omega) (fun _ _ e => e) (fun h' u tk hk => fin hk) h4
end L2

set_option maxRecDepth 100000
/-! Pf7c: sorted(d), d a dict. -/
namespace L2
open PySem PySem.Spec PySem.Calls PyProof.Rows PySem.W
open Pf (keyD keysD)
theorem vals_at {vs : List V} {us : List Value} (h : vs.length = us.length) (k : ∀ (i : Nat) v u, vs[i]? = some v → us[i]? = some u → RelV v u) : Vals vs us := by
  induction vs generalizing us with
  | nil =>
    cases us with
    | nil => exact .nil
    | cons _ _ => simp at h
  | cons v vs ih =>
    cases us with
    | nil => simp at h
    | cons u us =>
      refine .cons (k 0 v u rfl rfl) (ih (by simpa using h) fun i v' u' e1 e2 => k (i + 1) v' u' (by simpa using e1) (by simpa using e2))
theorem sortK_core {X : Cx} (hu : X.A.units + 70 < cLine) (hcalm : X.calm = true) {pins : List (Addr × Obj)} {s : Shared} {σ : St} {H : Hp} {Q : VK} {a : Addr} {o : Obj} {es : Array DictEntry} {ep : Nat} (I : Inv X pins σ H s) (lo : (a == sysModules) = false) (ho : s.heap.get? a = some o) (hx : o.ExactDict) (hdt : o.data = .dict es ep) (hz : es.size ≤ sizeLine)
    {vs : List V} {ds : List PyData} (hl : es.size = vs.length) (hk : ∀ (i : Nat) v (hi : i < es.size), vs[i]? = some v → RelV v es[i].key) (dp : DpAll X.K H vs ds) (h1 : AllAlike ds) (h2 : SortZ ds) (h3 : ∀ d ∈ ds, d.depth ≤ 60) (q : ∀ p, H p = none → Q (.ref p) (upd H p (.lst (sortV vs ds)))) :
    wpAny (model X.prog X.w) X.A (call (.builtin "sorted") [.ref a]) (EP X pins σ Q) X.xe s := by
  refine call_function_entry kind_sorted plain_sorted entry_sorted (args_sorted1 _) ?_
  unfold Builtin.«sorted»
  refine wpAny_bind (m := checkCount "sorted" 1 1 _) (wpAny_pure ?_)
  refine wpAny_bind (kdu_collect (A := X.A.in1) (KdlSrc.rawDict lo) (I.ok.hd hcalm) ⟨o, ho, hx, hdt⟩ hz fun h' tk acc hkp hacc => ?_)
  have hlen : acc.toList.length = vs.length := by rw [Array.length_toList, hacc.1, hl]
  have hrel : Vals vs acc.toList := vals_at hlen.symm fun i v u e1 e2 => by
    rw [Array.getElem?_toList] at e2
    obtain ⟨hi, e3⟩ := hacc.2 i u e2
    rw [e3]
    exact hk i v hi e1
  have hsz : acc.toList.length ≤ sizeLine := by rw [hlen, ← hl]; exact hz
  refine wpAny_bind (wpAny_newList ?_ hsz)
  have I1 : Inv X pins σ H { s with heap := h', toks := tk } := I.kept hkp
  have hnew : (h'.push { cls := .type "list", data := .seq acc.toList.toArray }).get? h'.objs.size = some (seqObj "list" acc.toList.toArray 0) := Heap.get?_push_size _ rfl
  obtain ⟨e1, e2⟩ := each_vals I1 dp hrel
  have ez : (vs.zip ds).map Prod.snd = ds := zip_snd dp
  have hl2 : (vs.zip ds).length = vs.length := by rw [List.length_zip, dpAll_len dp, Nat.min_self]
  have e2' : EachIs (fun v (b : V × PyData) => ∃ as, Reads (h'.push { cls := .type "list", data := .seq acc.toList.toArray }) v b.2 as ∧ h'.objs.size ∉ as) acc.toList (vs.zip ds) := e2.mono fun v b ⟨as, r⟩ => ⟨as, PyProof.Rows.Reads.keeps (fun _ _ e => Heap.get?_push_of_some _ e) r, fun hm => by
    obtain ⟨ob, hb⟩ := PyProof.On.reads_mem_get r _ hm
    exact absurd (Heap.lt_size hb) (Nat.lt_irrefl _)⟩
  have key := list_sortZ (prog := X.prog) (w := X.w) (A := X.A.in1) (E := X.xe) (s := { s with heap := h'.push { cls := .type "list", data := .seq acc.toList.toArray }, toks := tk }) (a := h'.objs.size) (n := 0) (enc := Prod.snd)
    (Q := fun _ s' => EP X pins σ Q (.ref h'.objs.size) s') hnew e1 e2' (by rw [ez]; exact h1) (by rw [ez]; exact h2) (by rw [hl2, ← hl]; exact hz) (fun b hb => by
      have := h3 b.2 (by rw [← ez]; exact List.mem_map.mpr ⟨b, hb, rfl⟩)
      have u1 : X.A.in1.units = X.A.units + 1 := rfl
      omega) (fun out ho' eo => by
      have hv := vals_each eo
      have fr : s.heap.get? h'.objs.size = none := by
        cases z : s.heap.get? h'.objs.size with
        | none => rfl
        | some ob => exact absurd (Heap.lt_size (hkp _ _ z)) (Nat.lt_irrefl _)
      have fH : H h'.objs.size = none := I1.hok.fresh (Nat.le_refl _)
      obtain ⟨e, he⟩ := sortedHeap_at (out := out.toArray) hnew
      refine ⟨.ref _, upd H h'.objs.size (.lst (sortV vs ds)), I.laidN (t' := tk) (fun b u z => ?_) fr fH ⟨?_, out, e, hv, he⟩, rfl, q _ fH⟩
      · have hb := Heap.lt_size (hkp _ _ z)
        rw [sortedHeap_old (Nat.ne_of_lt hb) (by rw [size_push']; exact Nat.lt_succ_of_lt hb), Heap.get?_push_ne _ _ _ (Nat.ne_of_lt hb)]
        exact hkp _ _ z
      · show (sortV vs ds).length ≤ sizeLine
        unfold sortV
        rw [hv.length, ho', hl2, ← hl]
        exact hz)
  refine wpAny_bind (wpAny_holding (wpAny_mono key (fun _ s' x => ?_) fun _ _ e => e))
  exact wpAny_pure ⟨_, rfl, x⟩
theorem keyD_depth (k : Key) : (keyD k).depth = 0 := by cases k <;> rfl
theorem depth_keys : ∀ ks : List Key, PyData.depthAll (ks.map keyD) = 0
  | [] => rfl
  | k :: r => by
    show max (keyD k).depth (PyData.depthAll (r.map keyD)) = 0
    rw [keyD_depth, depth_keys r]; rfl
theorem pq_of {H : Hp} {kvs : List (List Key × V)} {xs : List (List Key × Addr × Value)} (r : KT H kvs xs) : Paired (fun p q => H q = some (.tup (p.1.map kV))) kvs (xs.map fun x => x.2.1) := by
  induction r with
  | nil => exact .nil
  | cons h t ih => exact .cons h.2.1 ih
/-- sorted(d) -/
def rSortK : List V → Hp → VK → Prop := fun xs H Q => ∃ a, xs = [.ref a] ∧
  ((∃ kvs : List (Key × V), Rd H a (.dK kvs) ∧ AllAlike (kvs.map fun p => keyD p.1) ∧ SortZ (kvs.map fun p => keyD p.1) ∧ ∀ p, H p = none → Q (.ref p) (upd H p (.lst (sortV (kvs.map fun p => kV p.1) (kvs.map fun p => keyD p.1))))) ∨
   ∃ kvs : List (List Key × V), Rd H a (.dT kvs) ∧ AllAlike (kvs.map fun p => keysD p.1) ∧ SortZ (kvs.map fun p => keysD p.1) ∧ ∀ qs : List Addr, Paired (fun p q => H q = some (.tup (p.1.map kV))) kvs qs → ∀ p, H p = none → Q (.ref p) (upd H p (.lst (sortV (qs.map V.ref) (kvs.map fun p => keysD p.1)))))
theorem dpAll_keys {K : PySem.W.Frag} {H : Hp} : ∀ ks : List Key, DpAll K H (ks.map kV) (ks.map keyD)
  | [] => .nil
  | .inl j :: r => .cons (.int j) (dpAll_keys r)
  | .inr x :: r => .cons (.str x) (dpAll_keys r)
theorem dp_qs {K : PySem.W.Frag} {H : Hp} {kvs : List (List Key × V)} {qs : List Addr} (r : Paired (fun p q => H q = some (.tup (p.1.map kV))) kvs qs) : DpAll K H (qs.map V.ref) (kvs.map fun p => keysD p.1) := by
  induction r with
  | nil => exact .nil
  | cons h t ih => exact .cons (.tup (SqT.of h) (dpAll_keys _)) ih
theorem call_sortK {X : Cx} (hu : X.A.units + 70 < cLine) (hcalm : X.calm = true) : CallR X (.builtin "sorted") rSortK := by
  intro pins s σ H xs us Q I r h
  obtain ⟨a, rfl, h⟩ := h
  rw [Vals.ref1 r]
  rcases h with ⟨kvs, rd, h1, h2, q⟩ | ⟨kvs, rd, h1, h2, q⟩
  · obtain ⟨z, lo, vs, kv, o, es, ep, ho, hx, hdt, hke, hpr, _⟩ := dk_rd I.hok rd
    have l1 : es.size = vs.length := by have := hpr.length; rw [Array.length_toList] at this; omega
    have l2 : kvs.length = vs.length := Paired.length kv
    refine sortK_core hu hcalm I lo ho hx hdt (by omega) (vs := kvs.map fun p => kV p.1) (by rw [List.length_map]; omega) (fun i v hi e => ?_) ?_ h1 h2 (fun d hd => ?_) q
    · simp only [List.getElem?_map, Option.map_eq_some_iff] at e
      obtain ⟨⟨k, w⟩, ek, rfl⟩ := e
      obtain ⟨u, eu, _⟩ := kv_get kv ek
      exact relV_key (show keyIs k es[i].key = true from (hpr.get? (by rw [Array.getElem?_toList]; exact Array.getElem?_eq_getElem hi) eu).1)
    · have := dpAll_keys (K := X.K) (H := H) (kvs.map (·.1))
      simpa [List.map_map, Function.comp_def] using this
    · obtain ⟨p, _, rfl⟩ := List.mem_map.mp hd
      rw [keyD_depth]; omega
  · obtain ⟨z, lo, xs, pr, o, es, ep, ho, hx, hdt, he, _⟩ := dt_rd I.hok rd
    have l1 : es.size = xs.length := size_of_entries he
    have l2 : kvs.length = xs.length := Paired.length pr
    have pq : Paired (fun p q => H q = some (.tup (p.1.map kV))) kvs (xs.map fun x => x.2.1) := pq_of pr
    refine sortK_core hu hcalm I lo ho hx hdt (by omega) (vs := (xs.map fun x => x.2.1).map V.ref) (by simp [l1]) (fun i v hi e => ?_) (dp_qs pq) h1 h2 (fun d hd => ?_) (q _ pq)
    · have qe := entry_at he i
      simp only [List.map_map, List.getElem?_map, Option.map_eq_some_iff] at e
      obtain ⟨x, ex, rfl⟩ := e
      rw [ex, Array.getElem?_eq_getElem hi] at qe
      have qe := Option.some.inj qe
      rw [qe]
      exact rfl
    · obtain ⟨p, _, rfl⟩ := List.mem_map.mp hd
      show PyData.depthAll (p.1.map keyD) + 1 ≤ 60
      rw [depth_keys]; omega
end L2

set_option maxRecDepth 100000
/-! Pf7d: dict(pairs), the keys tuples. -/
namespace L2
open PySem PySem.Spec PySem.Calls PyProof.Rows PySem.W
def mergeT (kvs more : List (List Key × V)) : List (List Key × V) := more.foldl (fun acc kv => putK acc kv.1 kv.2) kvs
def rDictPT (K : PySem.W.Frag) : List V → Hp → VK → Prop := fun xs H Q => ∃ (a : Addr) (ps : List Addr) (kvs : List (List Key × V)), xs = [.ref a] ∧ SqL K H a (ps.map V.ref) ∧ Paired (fun p (kv : List Key × V) => ∃ q, SqT K H p [.ref q, kv.2] ∧ H q = some (.tup (kv.1.map kV))) ps kvs ∧
    ∀ p, H p = none → Q (.ref p) (upd H p (.dT (mergeT [] kvs)))
theorem KT.merge {H : Hp} {more : List (List Key × V)} {rs : List (List Key × Addr × Value)} (r : KT H more rs) : ∀ {kvs : List (List Key × V)} {vs : List (List Key × Addr × Value)}, KT H kvs vs → KT H (mergeT kvs more) (storedAllH vs rs) := by
  induction r with
  | nil => exact fun q => q
  | cons h t ih =>
    intro kvs vs q
    obtain ⟨h1, h2, h3⟩ := h
    have := ih (q.put _ (by exact h2) h3)
    unfold mergeT storedAllH at this ⊢
    rw [List.foldl_cons, List.foldl_cons]
    rw [← h1]
    exact this
theorem pairsT_of {X : Cx} {pins : List (Addr × Obj)} {σ : St} {H : Hp} {s : Shared} (I : Inv X pins σ H s) : ∀ {ps : List Addr} {kvs : List (List Key × V)}, Paired (fun p (kv : List Key × V) => ∃ q, SqT X.K H p [.ref q, kv.2] ∧ H q = some (.tup (kv.1.map kV))) ps kvs →
    ∃ xs : List (List Key × Addr × Value), KT H kvs xs ∧ xs.length = ps.length ∧ ∀ (j : Nat) (x : List Key × Addr × Value), xs[j]? = some x → ∃ b, ps[j]? = some b ∧ IsTup s.heap b #[.ref x.2.1, x.2.2]
  | _, _, .nil => ⟨[], .nil, rfl, fun j q e => by simp at e⟩
  | _, _, .cons (a := p) (b := kv) h t => by
    obtain ⟨xs, r, hl, hp⟩ := pairsT_of I t
    obtain ⟨q, hs, hq⟩ := h
    obtain ⟨its, rv, ht, _⟩ := I.tuple hs
    obtain ⟨u, y, ei, ru, ry⟩ := vals2 rv
    subst ei
    obtain rfl : u = Value.ref q := ru
    refine ⟨(kv.1, q, y) :: xs, .cons ⟨rfl, hq, ry⟩ r, by rw [List.length_cons, List.length_cons, hl], fun j x e => ?_⟩
    cases j with
    | zero =>
      have e' : (kv.1, q, y) = x := Option.some.inj e
      subst e'
      exact ⟨p, rfl, ht⟩
    | succ j =>
      obtain ⟨b, e1, e2⟩ := hp j x (by simpa using e)
      exact ⟨b, by simpa using e1, e2⟩
theorem mergeT_len : ∀ (more kvs : List (List Key × V)), (mergeT kvs more).length ≤ kvs.length + more.length
  | [], kvs => Nat.le_refl _
  | kv :: r, kvs => by
    have h1 := mergeT_len r (putK kvs kv.1 kv.2)
    have h2 : (putK kvs kv.1 kv.2).length ≤ kvs.length + 1 := by
      unfold putK
      split
      · rw [List.length_map]; omega
      · rw [List.length_append]; simp
    show (mergeT (putK kvs kv.1 kv.2) r).length ≤ kvs.length + (r.length + 1)
    omega
theorem KT.all {P : Program} {w : World} {H : Hp} {h : Heap} (ok : HOk P w H h) {l : List (List Key × V)} {m : List (List Key × Addr × Value)} (q : KT H l m) : ∀ x ∈ m, (tupleKind (mixKind P w)).is h x.1 x.2.1 := by
  induction q with
  | nil => intro x hx; exact nomatch hx
  | @cons p q ps qs hq t ih =>
    intro x hx
    rcases List.mem_cons.mp hx with e | hx
    · subst e
      exact key_of ok (by rw [← hq.1]; exact hq.2.1)
    · exact ih x hx
theorem call_dictPT {X : Cx} (hcalm : X.calm = true) (hu : X.A.units + 70 < cLine) : CallR X (.type "dict") (rDictPT X.K) := by
  intro pins s σ H xs us Q I r q
  obtain ⟨a, ps, kvs, ex, hq, hp, q⟩ := q
  subst ex
  obtain ⟨u, eu, rx⟩ := vals1 r
  subst eu
  cases rx
  obtain ⟨its, rv, pl, hz⟩ := I.list hq
  have ei := refs_at rv
  subst ei
  rw [List.length_map] at hz
  obtain ⟨prs, rel, hl, hpr⟩ := pairsT_of I hp
  obtain ⟨o, n, ho, hc, hd, hdat⟩ := pl
  have his : ∀ x ∈ prs, (tupleKind (mixKind X.prog X.w)).is s.heap x.1 x.2.1 := KT.all I.hok rel
  have P := PairArg.list (prog := X.prog) (w := X.w) a (ps.map Value.ref).toArray (fun j => ps.getD j 0) (prs.map fun x => (Value.ref x.2.1, x.2.2))
  refine call_dict_pairsH (knd := tupleKind (mixKind X.prog X.w)) (ps := prs) P (I.ok.hd hcalm) (by show X.A.units + 1 + 1 < cLine; omega) ⟨⟨o, n, ho, hc, hd, hdat⟩, by simp [hl], fun j k v e => ?_⟩ ⟨by simp, fun i key v e => ?_⟩ (fun h' hk x hx => ?_) (by simp [hl]; exact hz) fun h' tk hd' k => ?_
  · rw [List.getElem?_map, Option.map_eq_some_iff] at e
    obtain ⟨x, ex, e2⟩ := e
    cases e2
    obtain ⟨b, e1, e2⟩ := hpr j x ex
    refine ⟨by simp [e1, List.getD_eq_getElem?_getD], .inl ?_⟩
    have e3 : ps.getD j 0 = b := by rw [List.getD_eq_getElem?_getD, e1]; rfl
    show s.heap.IsTuple (ps.getD j 0) _
    rw [e3]
    exact e2
  · have e : (prs.map fun x => (Value.ref x.2.1, x.2.2))[i]? = some (key, v) := e
    rw [List.getElem?_map, Option.map_eq_some_iff] at e
    obtain ⟨x, ex, e2⟩ := e
    cases e2
    exact ⟨x.1, x.2.1, ex, rfl⟩
  · obtain ⟨ob, items, m, h1, h2⟩ := his x hx
    exact ⟨ob, items, m, hk _ _ (Nat.ne_of_lt (Heap.lt_size h1)) (by simp) h1, h2⟩
  · have hm : (s.heap.objs.size == sysModules) = false := beq_eq_false_iff_ne.mpr (Nat.ne_of_gt I.big)
    have hlen : (mergeT [] kvs).length ≤ sizeLine := by
      refine Nat.le_trans (mergeT_len kvs []) ?_
      rw [List.length_nil, Nat.zero_add, Paired.length rel, hl]
      exact hz
    have km : KT H (mergeT [] kvs) (storedAllH [] prs) := KT.merge rel .nil
    have hn : H s.heap.objs.size = none := I.hok.fresh (Nat.le_refl _)
    obtain ⟨o', es', ep', z1, z2, z3, z4, z5, z6⟩ := hd'
    exact ⟨.ref s.heap.objs.size, upd H s.heap.objs.size (.dT (mergeT [] kvs)), I.laid (t' := tk) (fun b u e => k b u (by simp) e) (Nat.le_refl _) (show ObjOk X.prog X.w _ _ _ (.dT (mergeT [] kvs)) from ⟨hlen, hm, storedAllH [] prs, km.keeps fun b ys e => by rw [upd_ne (ne_of_none e hn)]; exact e, o', es', ep', z1, z2, z3, z4, z6⟩), rfl, q _ hn⟩
end L2

set_option maxRecDepth 100000
/-! Pf7b: built-in calls, slices, pop, index. -/
namespace Pf
open PySem PySem.Spec PyProof.Rows
open L2 (V Hp HO upd upd_same upd_ne Same SqL SqT Dp DpAll Key Vals Cx Inv OpR R2 VK PE PT PA PS PSs TE TT TA TS TO RelV EP Vis Gl Room Env0 CE CallR tCB TyOf TyX)

/-- what every body's state keeps -/
structure OkX (X : Cx) : Prop where
  calm : X.calm = true
  guards : X.A.guards = some []
  units : X.A.units + 80 < cLine
  nodup : X.N.Nodup
  own : PassesOwn (model X.prog X.w) X.A X.env X.xe

inductive RvAll (sa : SA) (H0 : Hp) (g : Gh) (σ : L2.St) (H : Hp) : List V → List Rv → Prop
  | nil : RvAll sa H0 g σ H [] []
  | cons {v vs r rs} : RvOk sa H0 g σ H v r → RvAll sa H0 g σ H vs rs → RvAll sa H0 g σ H (v :: vs) (r :: rs)
inductive VwAll (g : Gh) (H : Hp) : List V → List D → Prop
  | nil : VwAll g H [] []
  | cons {v vs d ds} : Vw g H v d → VwAll g H vs ds → VwAll g H (v :: vs) (d :: ds)
def ServesB (X : Cx) (b : Bi) (k : List V → List V) (r : List V → Hp → VK → Prop) : Prop :=
  ∀ {sa : SA} {g : Gh} {st : St} {σ : L2.St} {H : Hp} {xs : List V} {ds : List D} {r' : Rv} {Q : VK}, SR sa g st σ H → VwAll g H xs ds → evBi b ds = some r' → Post sa g st σ H r' Q → r (k xs) H Q
section
variable {X : Cx} {sa : SA} (Γ : Nat → Fn)
theorem RvAll.vw {g : Gh} {st : St} {σ : L2.St} {H H0 : Hp} (R : SR sa g st σ H) : ∀ {vs : List V} {rs : List Rv} {ds : List D}, RvAll sa H0 g σ H vs rs → resAll st rs = some ds → VwAll g H vs ds
  | _, _, ds, .nil, e => by
    simp only [resAll, Option.some.injEq] at e
    subst e
    exact .nil
  | _, _, ds, .cons h t, e => by
    simp only [resAll, Option.bind_eq_some_iff, Option.map_eq_some_iff] at e
    obtain ⟨d, e1, ds', e2, rfl⟩ := e
    exact .cons (h.vw R e1) (RvAll.vw R t e2)
def tDV (sa : SA) (ev : St → Option (List Rv × St)) : TA := fun σ H Q => ∃ g st rs st', SR sa g st σ H ∧ ev st = some (rs, st') ∧ ∀ vs g' H', SR sa g' st' σ H' → Ext sa g H g' H' → RvAll sa H g' σ H' vs rs → Q vs H'
structure DV (X : Cx) (sa : SA) (es : List Expr) (ev : St → Option (List Rv × St)) : Prop where
  pa : PA X es (tDV sa ev)
  ok : ∀ e ∈ es, okE e = true
theorem RvAll.weak {g : Gh} {σ : L2.St} {H H0 H' : Hp} (e : ∀ a, H0 a ≠ none → H' a ≠ none) : ∀ {vs : List V} {rs : List Rv}, RvAll sa H' g σ H vs rs → RvAll sa H0 g σ H vs rs
  | _, _, .nil => .nil
  | _, _, .cons h t => .cons (h.weak e) (t.weak e)
theorem dv_nil : DV X sa [] (evalv Γ .nil) := by
  refine ⟨L2.pa_nil.wk fun σ H Q ⟨g, st, ds, st', R, e, k⟩ => ?_, fun _ h => by simp at h⟩
  simp only [evalv] at e
  cases e
  exact k [] g H R .refl .nil
theorem dv_cons {e : Expr} {es : List Expr} {c : Ex} {cs : Exs} (h : DE X sa e (eval Γ c)) (hs : DV X sa es (evalv Γ cs)) : DV X sa (e :: es) (evalv Γ (.cons c cs)) := by
  refine ⟨(L2.pa_cons h.pe hs.pa (starEach_ok h.ok)).wk fun σ H Q ⟨g, st, ds, st', R, e, k⟩ => ?_, fun x hx => (List.mem_cons.mp hx).elim (fun e => e ▸ h.ok) (hs.ok x)⟩
  simp only [evalv, Option.bind_eq_some_iff, Option.map_eq_some_iff] at e
  obtain ⟨⟨r1, st1⟩, e1, ⟨rs', st3⟩, e3, e4⟩ := e
  cases e4
  refine ⟨g, st, r1, st1, R, e1, fun v g1 H1 R1 E1 O1 => ?_⟩
  exact ⟨g1, st1, rs', st3, R1, e3, fun vs g3 H3 R3 E3 O3 => k (v :: vs) g3 H3 R3 (E1.trans E3) (.cons (O1.ext E3) (O3.weak E1.there))⟩
theorem rd_bi {b : Bi} {k : List V → List V} {r : List V → Hp → VK → Prop} (hs : ServesB X b k r) {cs : Exs} {σ : L2.St} {H : Hp} {Q : VK} (h : tD sa (eval Γ (.bi b cs)) σ H Q) : tDV sa (evalv Γ cs) σ H fun vs H1 => r (k vs) H1 Q := by
  obtain ⟨g, st, r', st', R, e, q⟩ := h
  simp only [eval, Option.bind_eq_some_iff, Option.map_eq_some_iff] at e
  obtain ⟨⟨rs, st1⟩, e1, ds, e2, r'', e3, e4⟩ := e
  cases e4
  exact ⟨g, st, rs, st1, R, e1, fun vs g1 H1 R1 E1 O1 => hs R1 (O1.vw R1 e2) e3 (weakPost E1 q)⟩
theorem de_biB {b : Bi} {x : Str} {id : String} {r : List V → Hp → VK → Prop} {e : Expr} {es : List Expr} {cs : Exs} {p pos : Pos} (hc : CallR X (.builtin id) r) (hs : ServesB X b (fun x => x) r) (hg : Gl X x) (hm : X.mg x = none) (hv : bootBuiltins x = some (.builtin id))
    (hn : x ≠ "__name__") (hdb : (x == ("__debug__" : Str)) = false) (ha : DV X sa (e :: es) (evalv Γ cs)) : DE X sa (.Call (.Name x p) (e :: es) [] pos) (eval Γ (.bi b cs)) :=
  DE.val ((L2.pe_callB hc hg hm hv ha.pa hn hdb (starEach_ok (ha.ok e (by simp))) (stars_ok (fun y hy => ha.ok y (by simp [hy])) pos)).wk fun σ H Q h => rd_bi (X := X) Γ hs h) rfl
theorem de_biT {b : Bi} {x : Str} {id : String} {r : List V → Hp → VK → Prop} {e : Expr} {es : List Expr} {cs : Exs} {p pos : Pos} (hc : CallR X (.type id) r) (hs : ServesB X b (fun x => x) r) (hg : Gl X x) (hm : X.mg x = none) (hv : bootBuiltins x = some (.type id))
    (hn : x ≠ "__name__") (hdb : (x == ("__debug__" : Str)) = false) (ha : DV X sa (e :: es) (evalv Γ cs)) : DE X sa (.Call (.Name x p) (e :: es) [] pos) (eval Γ (.bi b cs)) :=
  DE.val ((L2.pe_callTy hc hg hm hv ha.pa hn hdb (starEach_ok (ha.ok e (by simp))) (stars_ok (fun y hy => ha.ok y (by simp [hy])) pos)).wk fun σ H Q h => rd_bi (X := X) Γ hs h) rfl

/-! ### the built-ins -/
theorem ev1_some {f : D → Option Rv} {ds : List D} {r : Rv} (e : ev1 f ds = some r) : ∃ d, ds = [d] ∧ f d = some r := by
  unfold ev1 at e
  split at e
  · exact ⟨_, rfl, e⟩
  · cases e
theorem ev2_some {f : D → D → Option Rv} {ds : List D} {r : Rv} (e : ev2 f ds = some r) : ∃ d d', ds = [d, d'] ∧ f d d' = some r := by
  unfold ev2 at e
  split at e
  · exact ⟨_, _, rfl, e⟩
  · cases e
theorem VwAll.one {g : Gh} {H : Hp} {xs : List V} {d : D} (h : VwAll g H xs [d]) : ∃ x, xs = [x] ∧ Vw g H x d := by
  cases h with
  | cons h t => cases t; exact ⟨_, rfl, h⟩
theorem VwAll.two {g : Gh} {H : Hp} {xs : List V} {d d' : D} (h : VwAll g H xs [d, d']) : ∃ x y, xs = [x, y] ∧ Vw g H x d ∧ Vw g H y d' := by
  cases h with
  | cons h t =>
    cases t with
    | cons h' t => cases t; exact ⟨_, _, rfl, h, h'⟩
/-- a list or a tuple that is read -/
theorem Vw.seq {g : Gh} {H : Hp} {x : V} {d : D} {ds : List D} {K : PySem.W.Frag} (h : Vw g H x d) (S : Sub g.Z H) (e : items d = some ds) : ∃ p ys, x = .ref p ∧ DtAll g.Z ys ds ∧ ((SqL K H p ys ∧ d = .list ds) ∨ (SqT K H p ys ∧ d = .tuple ds)) := by
  cases d <;> simp only [items, reduceCtorEq, Option.some.injEq] at e
  · subst e
    obtain ⟨a, vs, rfl, h1, h2⟩ := h.lst S
    exact ⟨a, vs, rfl, h2, .inl ⟨SqL.of h1, rfl⟩⟩
  · subst e
    obtain ⟨a, vs, rfl, h1, h2⟩ := h.tup
    exact ⟨a, vs, rfl, h2, .inr ⟨SqT.of (S.at h1), rfl⟩⟩
/-- len(d) -/
def rLenD : List V → Hp → VK → Prop := fun xs H Q => ∃ a, xs = [.ref a] ∧ ((∃ kvs, L2.Rd H a (.dK kvs) ∧ Q (.int kvs.length) H) ∨ ∃ kvs, L2.Rd H a (.dT kvs) ∧ Q (.int kvs.length) H)
theorem call_lenD : CallR X (.builtin "len") rLenD := by
  intro pins s σ H xs us Q I r h
  obtain ⟨a, rfl, h⟩ := h
  cases r with
  | cons r rr =>
    cases rr
    cases r
    rcases h with ⟨kvs, rd, q⟩ | ⟨kvs, rd, q⟩
    · exact L2.d_len I rd fun t s' I' => ⟨.int kvs.length, H, I', ⟨_, rfl⟩, q⟩
    · obtain ⟨z, hd, ys, rel, dd⟩ := L2.dt_rd I.hok rd
      have hm : s.heap.DictKeyed (tupleKind (L2.mixKind X.prog X.w)) a (pairsH ys) := ⟨ys, dd, rfl⟩
      have hl : (pairsH ys).length = kvs.length := by
        have := Paired.length rel
        simp only [pairsH, List.length_map]
        exact this.symm
      have zz : kvs.length ≤ 16777216 := by rw [sizeLine_eq] at z; exact z
      refine PyProof.Rows.call_len_slot (n := (kvs.length : Int)) hm.typeIs F.slot_dict_len (fun Q' hq => len_keyed hd hm (by rw [hl]; exact hq)) (by omega) (by omega) ?_
      exact ⟨.int kvs.length, H, I.kept (t' := s.toks + 1 + 1) fun _ _ z => z, ⟨_, rfl⟩, q⟩
theorem serves_len : ServesB X .len (fun x => x) (fun xs H Q => (∃ p ys, xs = [.ref p] ∧ (SqL X.K H p ys ∨ SqT X.K H p ys) ∧ Q (.int ys.length) H) ∨ rLenD xs H Q) := by
  intro sa g st σ H xs ds r Q R h e k
  obtain ⟨d, rfl, ee⟩ := ev1_some (f := bLen) e
  have e := ee
  obtain ⟨x, rfl, hh⟩ := h.one
  have h := hh
  unfold bLen at e
  split at e
  · cases e
    obtain ⟨p, ys, rfl, h1, h2⟩ := h.seq (K := X.K) R.sub rfl
    exact .inl ⟨p, ys, rfl, h2.imp And.left And.left, k _ g H R .refl (by rw [h1.len]; exact .int _)⟩
  · cases e
    obtain ⟨p, ys, rfl, h1, h2⟩ := h.seq (K := X.K) R.sub rfl
    exact .inl ⟨p, ys, rfl, h2.imp And.left And.left, k _ g H R .refl (by rw [h1.len]; exact .int _)⟩
  · simp only [Option.map_eq_some_iff] at e
    obtain ⟨q, e1, rfl⟩ := e
    rw [dctOf_is e1] at h
    obtain ⟨a, o, rfl, rd, dk⟩ := h.dct R.sub
    generalize q.1 = T at dk
    generalize q.2 = kvs at dk k
    refine .inr ⟨a, rfl, ?_⟩
    cases dk with
    | k h => exact .inl ⟨_, rd, k _ g H R .refl (by rw [len_both h]; exact .int _)⟩
    | t h => exact .inr ⟨_, rd, k _ g H R .refl (by rw [len_both h]; exact .int _)⟩
  · cases e
theorem serves_abs : ServesB X .abs (fun x => x) (fun xs H Q => ∃ i, xs = [.int i] ∧ Q (.int (if i < 0 then -i else i)) H) := by
  intro sa g st σ H xs ds r Q R h e k
  obtain ⟨d, rfl, ee⟩ := ev1_some (f := bAbs) e
  have e := ee
  obtain ⟨x, rfl, hh⟩ := h.one
  have h := hh
  cases d <;> simp only [bAbs, reduceCtorEq, Option.some.injEq] at e
  subst e
  rw [h.int]
  exact ⟨_, rfl, k _ g H R .refl (.int _)⟩
theorem serves_int : ServesB X .int (fun x => x) (fun xs H Q => (∃ i, xs = [.int i] ∧ Q (.int i) H) ∨ ∃ k, xs = [.bl k] ∧ Q (.int (if k then 1 else 0)) H) := by
  intro sa g st σ H xs ds r Q R h e k
  obtain ⟨d, rfl, ee⟩ := ev1_some (f := bInt) e
  have e := ee
  obtain ⟨x, rfl, hh⟩ := h.one
  have h := hh
  cases d <;> simp only [bInt, reduceCtorEq, Option.some.injEq] at e <;> subst e
  · rw [h.bool]
    exact .inr ⟨_, rfl, k _ g H R .refl (.int _)⟩
  · rw [h.int]
    exact .inl ⟨_, rfl, k _ g H R .refl (.int _)⟩
theorem listOf_some {d : D} {ds : List D} (e : listOf d = some ds) : d = .list ds := by
  cases d <;> simp only [listOf, reduceCtorEq, Option.some.injEq] at e
  rw [e]
theorem serves_sum : ServesB X .sum (fun x => x) (L2.rSum X.K) := by
  intro sa g st σ H xs ds r Q R h e k
  obtain ⟨d, rfl, ee⟩ := ev1_some (f := bSum) e
  have e := ee
  obtain ⟨x, rfl, hh⟩ := h.one
  have h := hh
  simp only [bSum, Option.map_eq_some_iff, Option.bind_eq_some_iff] at e
  obtain ⟨ds, e1, ns, e2, rfl⟩ := e
  rw [listOf_some e1] at h
  obtain ⟨a, vs, rfl, h1, h2⟩ := h.lst R.sub
  rw [h2.of_ints e2] at h1
  exact ⟨a, ns, rfl, SqL.of h1, k _ g H R .refl (.int _)⟩
theorem minL_is : ∀ {l : List Int} {m : Int}, m ∈ l → (∀ y ∈ l, m ≤ y) → m = minL l
  | [x], m, h, _ => by simpa [minL] using h
  | x :: y :: r, m, h, k => by
    have ih : ∀ {z : Int}, z ∈ y :: r → (∀ w ∈ y :: r, z ≤ w) → z = minL (y :: r) := fun h k => minL_is h k
    show m = min x (minL (y :: r))
    have hm : minL (y :: r) ∈ y :: r ∧ ∀ w ∈ y :: r, minL (y :: r) ≤ w := minL_mem y r
    have h1 := k x (by simp)
    have h2 := k _ (List.mem_cons_of_mem x hm.1)
    rcases List.mem_cons.mp h with h | h
    · omega
    · have := hm.2 m h
      omega
where
  minL_mem : ∀ (y : Int) (r : List Int), minL (y :: r) ∈ y :: r ∧ ∀ w ∈ y :: r, minL (y :: r) ≤ w
  | y, [] => by simp [minL]
  | y, z :: r => by
    obtain ⟨h1, h2⟩ := minL_mem z r
    show min y (minL (z :: r)) ∈ y :: z :: r ∧ ∀ w ∈ y :: z :: r, min y (minL (z :: r)) ≤ w
    refine ⟨?_, fun w hw => ?_⟩
    · rcases Int.le_total y (minL (z :: r)) with h | h
      · rw [Int.min_eq_left h]; simp
      · rw [Int.min_eq_right h]; exact List.mem_cons_of_mem y h1
    · rcases List.mem_cons.mp hw with rfl | hw
      · omega
      · have := h2 w hw
        omega
theorem maxL_is : ∀ {l : List Int} {m : Int}, m ∈ l → (∀ y ∈ l, y ≤ m) → m = maxL l
  | [x], m, h, _ => by simpa [maxL] using h
  | x :: y :: r, m, h, k => by
    show m = max x (maxL (y :: r))
    have hm : maxL (y :: r) ∈ y :: r ∧ ∀ w ∈ y :: r, w ≤ maxL (y :: r) := maxL_mem y r
    have h1 := k x (by simp)
    have h2 := k _ (List.mem_cons_of_mem x hm.1)
    rcases List.mem_cons.mp h with h | h
    · omega
    · have := hm.2 m h
      omega
where
  maxL_mem : ∀ (y : Int) (r : List Int), maxL (y :: r) ∈ y :: r ∧ ∀ w ∈ y :: r, w ≤ maxL (y :: r)
  | y, [] => by simp [maxL]
  | y, z :: r => by
    obtain ⟨h1, h2⟩ := maxL_mem z r
    show max y (maxL (z :: r)) ∈ y :: z :: r ∧ ∀ w ∈ y :: z :: r, w ≤ max y (maxL (z :: r))
    refine ⟨?_, fun w hw => ?_⟩
    · rcases Int.le_total y (maxL (z :: r)) with h | h
      · rw [Int.max_eq_right h]; exact List.mem_cons_of_mem y h1
      · rw [Int.max_eq_left h]; simp
    · rcases List.mem_cons.mp hw with rfl | hw
      · omega
      · have := h2 w hw
        omega
theorem serves_min1 : ServesB X .min1 (fun x => x) (L2.rMin X.K) := by
  intro sa g st σ H xs ds r Q R h e k
  obtain ⟨d, rfl, ee⟩ := ev1_some (f := bMin) e
  have e := ee
  obtain ⟨x, rfl, hh⟩ := h.one
  have h := hh
  simp only [bMin, Option.bind_eq_some_iff] at e
  obtain ⟨ds, e1, ns, e2, e3⟩ := e
  split at e3
  · cases e3
  rename_i hne
  cases e3
  rw [listOf_some e1] at h
  obtain ⟨a, vs, rfl, h1, h2⟩ := h.lst R.sub
  rw [h2.of_ints e2] at h1
  refine ⟨a, ns, rfl, SqL.of h1, ?_, fun m hm hy => ?_⟩
  · cases ns
    · simp at hne
    · simp
  · rw [minL_is hm hy]
    exact k _ g H R .refl (.int _)
theorem serves_max1 : ServesB X .max1 (fun x => x) (L2.rMax X.K) := by
  intro sa g st σ H xs ds r Q R h e k
  obtain ⟨d, rfl, ee⟩ := ev1_some (f := bMax) e
  have e := ee
  obtain ⟨x, rfl, hh⟩ := h.one
  have h := hh
  simp only [bMax, Option.bind_eq_some_iff] at e
  obtain ⟨ds, e1, ns, e2, e3⟩ := e
  split at e3
  · cases e3
  rename_i hne
  cases e3
  rw [listOf_some e1] at h
  obtain ⟨a, vs, rfl, h1, h2⟩ := h.lst R.sub
  rw [h2.of_ints e2] at h1
  refine ⟨a, ns, rfl, SqL.of h1, ?_, fun m hm hy => ?_⟩
  · cases ns
    · simp at hne
    · simp
  · rw [maxL_is hm hy]
    exact k _ g H R .refl (.int _)
theorem serves_min2 : ServesB X .min2 (fun x => x) (fun xs H Q => ∃ i j, xs = [.int i, .int j] ∧ Q (.int (if j < i then j else i)) H) := by
  intro sa g st σ H xs ds r Q R h e k
  obtain ⟨d, d', rfl, ee⟩ := ev2_some (f := bMin2) e
  have e := ee
  obtain ⟨x, y, rfl, hh, h'⟩ := h.two
  have h := hh
  cases d <;> cases d' <;> simp only [bMin2, reduceCtorEq, Option.some.injEq] at e
  subst e
  rw [hh.int, h'.int]
  exact ⟨_, _, rfl, k _ g H R .refl (.int _)⟩
theorem serves_max2 : ServesB X .max2 (fun x => x) (fun xs H Q => ∃ i j, xs = [.int i, .int j] ∧ Q (.int (if j > i then j else i)) H) := by
  intro sa g st σ H xs ds r Q R h e k
  obtain ⟨d, d', rfl, ee⟩ := ev2_some (f := bMax2) e
  have e := ee
  obtain ⟨x, y, rfl, hh, h'⟩ := h.two
  have h := hh
  cases d <;> cases d' <;> simp only [bMax2, reduceCtorEq, Option.some.injEq] at e
  subst e
  rw [hh.int, h'.int]
  exact ⟨_, _, rfl, k _ g H R .refl (.int _)⟩
theorem newLst {g : Gh} {st : St} {σ : L2.St} {H : Hp} {vs : List V} {xs : List D} {Q : VK} (R : SR sa g st σ H) (h : DtAll g.Z vs xs) (k : Post sa g st σ H (.lst xs) Q) : ∀ p, H p = none → Q (.ref p) (upd H p (.lst vs)) := by
  intro p hp
  obtain ⟨R2, E2, z, w, ns⟩ := R.new (o := .lst vs) hp
  exact k _ _ _ R2 E2 ⟨p, vs, rfl, hp, upd_same, h, z, w, ns⟩
theorem newTup {g : Gh} {st : St} {σ : L2.St} {H : Hp} {vs : List V} {xs : List D} {Q : VK} (R : SR sa g st σ H) (h : DtAll g.Z vs xs) (k : Post sa g st σ H (.dat (.tuple xs)) Q) : ∀ p, H p = none → Q (.ref p) (upd H p (.tup vs)) := by
  intro p hp
  obtain ⟨R2, E2, zz⟩ := R.newIce (o := .tup vs) hp
  exact k _ _ _ R2 E2 (.tup upd_same (dtAllMono zz _ h))
theorem serves_list : ServesB X .list (fun x => x) (fun xs H Q => ∃ p ys, xs = [.ref p] ∧ (SqL X.K H p ys ∨ SqT X.K H p ys) ∧ ∀ l, H l = none → Q (.ref l) (upd H l (.lst ys))) := by
  intro sa g st σ H xs ds r Q R h e k
  obtain ⟨d, rfl, ee⟩ := ev1_some (f := bList) e
  have e := ee
  obtain ⟨x, rfl, hh⟩ := h.one
  have h := hh
  simp only [bList, Option.map_eq_some_iff] at e
  obtain ⟨ds, e1, rfl⟩ := e
  obtain ⟨p, ys, rfl, h1, h2⟩ := h.seq (K := X.K) R.sub e1
  exact ⟨p, ys, rfl, h2.imp And.left And.left, newLst R h1 k⟩
theorem serves_tuple : ServesB X .tuple (fun x => x) (fun xs H Q => ∃ p ys, xs = [.ref p] ∧ ((SqL X.K H p ys ∧ ∀ l, H l = none → Q (.ref l) (upd H l (.tup ys))) ∨ (SqT X.K H p ys ∧ Q (.ref p) H))) := by
  intro sa g st σ H xs ds r Q R h e k
  obtain ⟨d, rfl, ee⟩ := ev1_some (f := bTuple) e
  have e := ee
  obtain ⟨x, rfl, hh⟩ := h.one
  have h := hh
  simp only [bTuple, Option.map_eq_some_iff] at e
  obtain ⟨ds, e1, rfl⟩ := e
  cases d <;> simp only [items, reduceCtorEq, Option.some.injEq] at e1
  · subst e1
    obtain ⟨a, vs, rfl, h1, h2⟩ := h.lst R.sub
    exact ⟨a, vs, rfl, .inl ⟨SqL.of h1, newTup R h2 k⟩⟩
  · subst e1
    obtain ⟨a, vs, rfl, h1, h2⟩ := h.tup
    exact ⟨a, vs, rfl, .inr ⟨SqT.of (R.sub.at h1), k _ g H R .refl (.tup h1 h2)⟩⟩
theorem serves_all : ServesB X .all (fun x => x) (L2.rAll X.K) := by
  intro sa g st σ H xs ds r Q R h e k
  obtain ⟨d, rfl, ee⟩ := ev1_some (f := bAll) e
  have e := ee
  obtain ⟨x, rfl, hh⟩ := h.one
  have h := hh
  simp only [bAll, Option.map_eq_some_iff, Option.bind_eq_some_iff] at e
  obtain ⟨ds, e1, ns, e2, rfl⟩ := e
  rw [listOf_some e1] at h
  obtain ⟨a, vs, rfl, h1, h2⟩ := h.lst R.sub
  rw [h2.of_bools e2] at h1
  exact ⟨a, ns, rfl, SqL.of h1, k _ g H R .refl (.bl _)⟩
mutual
theorem okD_noDict : ∀ (k : Nat) (d : D), okD k d = true → d.hasDict = false
  | k, .none, _ => by simp [PyData.hasDict]
  | k, .bool _, _ => by simp [PyData.hasDict]
  | k, .int _, _ => by simp [PyData.hasDict]
  | k, .str x, h => by simp [PyData.hasDict]
  | 0, .list _, h => by simp [okD] at h
  | 0, .tuple _, h => by simp [okD] at h
  | k + 1, .list xs, h => by
    simp [PyData.hasDict, okD_noDictAll k xs (by simpa [okD] using h)]
  | k + 1, .tuple xs, h => by
    simp [PyData.hasDict, okD_noDictAll k xs (by simpa [okD] using h)]
  | k, .dict _, h => by cases k <;> simp [okD] at h
theorem okD_noDictAll : ∀ (k : Nat) (ds : List D), (∀ d ∈ ds, okD k d = true) → PyData.hasDictAll ds = false
  | k, [], _ => by simp [PyData.hasDictAll]
  | k, d :: ds, h => by
    simp [PyData.hasDictAll, okD_noDict k d (h d (by simp)), okD_noDictAll k ds fun x hx => h x (by simp [hx])]
end
theorem serves_repr : ServesB X .repr (fun x => x) (L2.rRepr X.K) := by
  intro sa g st σ H xs ds r Q R h e k
  obtain ⟨d, rfl, ee⟩ := ev1_some (f := bRepr) e
  have e := ee
  obtain ⟨x, rfl, hh⟩ := h.one
  have h := hh
  unfold bRepr at e
  split at e
  · rename_i hr
    cases e
    simp only [reprOk, Bool.and_eq_true, decide_eq_true_eq] at hr
    obtain ⟨⟨⟨h1, h2⟩, h3⟩, h4⟩ := hr
    exact ⟨x, d, rfl, h.dp R.sub h1, h2, okD_noDict _ _ h1, by have := (okD_shaped _ _ h1).2; omega, PyData.shown_fits_bulk (by decide) (by decide) h3 h4, k _ g H R .refl (.str _)⟩
  · cases e
/-! sorted -/
theorem sortV_data {Z : Hp} {vs : List V} {ds : List D} (h : DtAll Z vs ds) : DtAll Z (L2.sortV vs ds) (sortD ds) := by
  have hz : ∀ {vs : List V} {ds : List D}, DtAll Z vs ds → ∀ p ∈ vs.zip ds, Dt Z p.1 p.2 := by
    intro vs ds h
    induction vs generalizing ds with
    | nil => intro p hp; simp at hp
    | cons v vs ih =>
      cases h with
      | cons h1 h2 =>
        intro p hp
        rw [List.zip_cons_cons] at hp
        rcases List.mem_cons.mp hp with rfl | hp
        · exact h1
        · exact ih h2 p hp
  have hs : ∀ {vs : List V} {ds : List D}, DtAll Z vs ds → (vs.zip ds).map Prod.snd = ds := by
    intro vs ds h
    induction vs generalizing ds with
    | nil => cases h; rfl
    | cons v vs ih =>
      cases h with
      | cons h1 h2 => rw [List.zip_cons_cons, List.map_cons, ih h2]
  have key : (((vs.zip ds).mergeSort (PySem.W.dataLe false Prod.snd)).map Prod.snd) = sortD ds := by
    unfold sortD
    have := List.map_mergeSort (r := PySem.W.dataLe false Prod.snd) (s := PySem.W.dataLe false (id : D → D)) (f := Prod.snd) (l := vs.zip ds) (fun a _ b _ => rfl)
    rw [this, hs h]
  have all : ∀ (l : List (V × D)), (∀ p ∈ l, Dt Z p.1 p.2) → DtAll Z (l.map Prod.fst) (l.map Prod.snd) := by
    intro l
    induction l with
    | nil => intro _; exact .nil
    | cons p l ih => intro h; exact .cons (h p (by simp)) (ih fun q hq => h q (by simp [hq]))
  unfold L2.sortV
  rw [← key]
  exact all _ fun p hp => hz h p (List.mem_mergeSort.mp hp)
theorem keys_dtAll {Z : Hp} : ∀ ks : List L2.Key, DtAll Z (ks.map L2.kV) (ks.map keyD)
  | [] => .nil
  | .inl j :: r => .cons (.int j) (keys_dtAll r)
  | .inr x :: r => .cons (.str x) (keys_dtAll r)
/-- a tuple that stands already is frozen -/
theorem SR.iceT {g : Gh} {st : St} {σ : L2.St} {H : Hp} {T : Addr} {vs : List V} {es : List D} (R : SR sa g st σ H) (hT : H T = some (.tup vs)) (r : DtAll g.Z vs es) :
    ∃ g', SR sa g' st σ H ∧ Ext sa g H g' H ∧ Dt g'.Z (.ref T) (.tuple es) := by
  cases q : g.Z T with
  | some o =>
    have ho : o = .tup vs := by
      cases nf : isFrz o with
      | false =>
        have := R.sub.at q nf
        rw [hT] at this
        cases this
        rfl
      | true =>
        cases o with
        | frz p u =>
          obtain ⟨r1, r2⟩ := (R.sub T _ q).2 p u rfl
          rcases r1 with r1 | ⟨x, r1⟩
          · rw [hT] at r1
            cases r1
            exact absurd rfl (r2 vs)
          · rw [hT] at r1; cases r1
        | _ => cases nf
    subst ho
    exact ⟨g, R, .refl, .tup q r⟩
  | none =>
    have hw : g.w T = none := by
      cases q2 : g.w T with
      | none => rfl
      | some j => exact absurd hT ((R.own T j q2).2.2 vs)
    have ns : NotSrc sa T := fun s0 c0 hsa => by
      obtain ⟨t, _, k⟩ := R.src.at hsa
      exact ⟨fun z => (by have := k.d; rw [← z, hT] at this; cases this), fun z => (by have := k.c; rw [← z, hT] at this; cases this)⟩
    obtain ⟨R2, zz⟩ := R.ice (o := .tup vs) hT hw q ns
    refine ⟨_, R2, ⟨zz, fun b u q1 n s => ⟨q1, n, fun t z1 => ?_⟩, fun _ h => h⟩, .tup upd_same (dtAllMono zz _ r)⟩
    show upd g.Z T (.tup vs) b = none
    rw [upd_ne (fun z => by rw [z, hT] at q1; exact t vs (Option.some.inj q1).symm)]
    exact z1
theorem SR.iceTs {g : Gh} {st : St} {σ : L2.St} {H : Hp} {kvs : List (List L2.Key × V)} {qs : List Addr} (R : SR sa g st σ H) (h : Paired (fun p q => H q = some (.tup (p.1.map L2.kV))) kvs qs) :
    ∃ g', SR sa g' st σ H ∧ Ext sa g H g' H ∧ DtAll g'.Z (qs.map V.ref) (kvs.map fun p => keysD p.1) := by
  induction h generalizing g with
  | nil => exact ⟨g, R, .refl, .nil⟩
  | cons h t ih =>
    obtain ⟨g1, R1, E1, O1⟩ := R.iceT h (keys_dtAll _)
    obtain ⟨g2, R2, E2, O2⟩ := ih R1
    exact ⟨g2, R2, E1.trans E2, .cons (dtMono E2.z _ O1) O2⟩
theorem sort_ok {ds : List D} (hs : sortOk ds = true) : PySem.W.AllAlike ds ∧ PySem.W.SortZ ds ∧ ∀ d ∈ ds, okD 12 d = true := by
  simp only [sortOk, Bool.and_eq_true, Bool.or_eq_true, List.all_eq_true] at hs
  obtain ⟨⟨s1, s2⟩, s3⟩ := hs
  refine ⟨fun a ha b hb => s2 a ha b hb, ?_, s1⟩
  rcases s3 with (s3 | s3) | s3
  · refine .inl (.inl fun d hd => ?_)
    have := s3 d hd
    unfold tup1 at this
    split at this
    · exact ⟨_, _, rfl⟩
    · cases this
  rotate_left
  · refine .inr ?_
    unfold isUnit at s3
    split at s3
    · rfl
    · cases s3
  · refine .inl (.inr fun d hd => ?_)
    have := s3 d hd
    refine ⟨fun z => ?_, fun xs z => ?_⟩ <;> rw [z] at this <;> simp [notTup] at this
theorem serves_sorted : ServesB X .sorted (fun x => x) (fun xs H Q => L2.rSortD X.K xs H Q ∨ L2.rSortK xs H Q) := by
  intro sa g st σ H xs ds r Q R h e k
  obtain ⟨d, rfl, ee⟩ := ev1_some (f := bSorted) e
  have e := ee
  obtain ⟨x, rfl, hh⟩ := h.one
  have h := hh
  simp only [bSorted, Option.bind_eq_some_iff] at e
  obtain ⟨ds, e1, e3⟩ := e
  split at e3
  · rename_i hs
    cases e3
    obtain ⟨s1, s2, s3⟩ := sort_ok hs
    unfold sortItems at e1
    split at e1
    · cases e1
      obtain ⟨a, vs, rfl, h1, h2⟩ := h.lst R.sub
      refine .inl ⟨a, vs, ds, rfl, SqL.of h1, DtAll.dp R.sub s3 h2, s1, s2, fun d hd => ?_, newLst R (sortV_data h2) k⟩
      have := (okD_shaped _ _ (s3 d hd)).2
      omega
    · simp only [Option.map_eq_some_iff] at e1
      obtain ⟨q, e1, rfl⟩ := e1
      rw [dctOf_is e1] at h
      obtain ⟨a, o, rfl, rd, dk⟩ := h.dct R.sub
      generalize q.1 = T at dk
      generalize q.2 = kvs at dk k s1 s2 s3
      refine .inr ⟨a, rfl, ?_⟩
      cases dk with
      | @k kvs es h =>
        have ek : ((kvs.map fun p => keyD p.1).zip es).map (·.1) = kvs.map fun p => keyD p.1 := List.map_fst_zip (by have := h.len; simpa using Nat.le_of_eq this)
        rw [ek] at s1 s2 k
        refine .inl ⟨kvs, rd, s1, s2, newLst R (sortV_data ?_) k⟩
        have := keys_dtAll (Z := g.Z) (kvs.map (·.1))
        simpa [List.map_map, Function.comp_def] using this
      | @t kvs es h =>
        have ek : ((kvs.map fun p => keysD p.1).zip es).map (·.1) = kvs.map fun p => keysD p.1 := List.map_fst_zip (by have := h.len; simpa using Nat.le_of_eq this)
        rw [ek] at s1 s2 k
        refine .inr ⟨kvs, rd, s1, s2, fun qs hq => ?_⟩
        obtain ⟨g1, R1, E1, O1⟩ := R.iceTs hq
        exact newLst R1 (sortV_data O1) (weakPost E1 k)
    · cases e1
  · cases e3
/-! isinstance -/
theorem kitB_is : ∀ n ∈ ["NoneType", "bool", "int", "str", "list", "tuple"], ∀ T ∈ ["tuple", "int", "bool", "str"], L2.kitB n T = some (n == T || (n == "bool" && T == "int")) := by decide +kernel
theorem ty_of {g : Gh} {H : Hp} {x : V} {d : D} {n : String} {K : PySem.W.Frag} (h : Vw g H x d) (S : Sub g.Z H) (e : tyName d = some n) : TyX K H x (.type n) ∧ n ∈ ["NoneType", "bool", "int", "str", "list", "tuple"] := by
  cases d <;> simp only [tyName, reduceCtorEq, Option.some.injEq] at e <;> subst e
  · rw [h.none]; exact ⟨.base .non, by decide⟩
  · rw [h.bool]; exact ⟨.base (.bl _), by decide⟩
  · rw [h.int]; exact ⟨.base (.int _), by decide⟩
  · rw [h.str]; exact ⟨.base (.str _), by decide⟩
  · obtain ⟨a, vs, rfl, h1, h2⟩ := h.lst S
    exact ⟨.base (.lst h1), by decide⟩
  · obtain ⟨a, vs, rfl, h1, h2⟩ := h.tup
    exact ⟨.base (.tup (S.at h1)), by decide⟩
theorem serves_is {b : Bi} {T : String} (hT : T ∈ ["tuple", "int", "bool", "str"]) (hb : ∀ ds, evBi b ds = ev1 (bIs T) ds) : ServesB X b (fun xs => xs ++ [.ty T]) (L2.rIsi X.K) := by
  intro sa g st σ H xs ds r Q R h e k
  rw [hb] at e
  obtain ⟨d, rfl, ee⟩ := ev1_some (f := bIs T) e
  have e := ee
  obtain ⟨x, rfl, hh⟩ := h.one
  have h := hh
  simp only [bIs, Option.map_eq_some_iff] at e
  obtain ⟨n, e1, rfl⟩ := e
  obtain ⟨h1, h2⟩ := ty_of (K := X.K) h R.sub e1
  exact ⟨x, .ty T, .type n, .type T, _, rfl, .ty T, h1, L2.kit_ty (kitB_is n h2 T hT), k _ g H R .refl (.bl _)⟩
theorem de_isi {b : Bi} {T : String} {xT : Str} {e : Expr} {c : Ex} {p pT pos : Pos} (hT : T ∈ ["tuple", "int", "bool", "str"]) (hb : ∀ ds, evBi b ds = ev1 (bIs T) ds) (hg : Gl X "isinstance") (hm : X.mg "isinstance" = none) (hgT : Gl X xT) (hmT : X.mg xT = none) (hvT : bootBuiltins xT = some (.type T))
    (hnT : xT ≠ "__name__") (hdT : (xT == ("__debug__" : Str)) = false) (h : DE X sa e (eval Γ c)) : DE X sa (.Call (.Name "isinstance" p) [e, .Name xT pT] [] pos) (eval Γ (.bi b (.cons c .nil))) := by
  have pT : PE X (.Name xT pT) (L2.tC (.ty T)) := L2.pe_bltn hgT hmT hvT (show RelV (.ty T) (.type T) from rfl) hnT hdT
  refine DE.val ((L2.pe_callB L2.call_isi hg hm (by decide +kernel) (L2.pa_cons h.pe (L2.pa_cons pT L2.pa_nil) (starEach_ok h.ok)) (by decide) (by decide) (starEach_ok h.ok) rfl).wk fun σ H Q q => ?_) rfl
  have q := rd_bi (X := X) Γ (serves_is (X := X) hT hb) q
  obtain ⟨g, st, rs, st', R, ee, k⟩ := q
  simp only [evalv, Option.bind_eq_some_iff, Option.map_eq_some_iff] at ee
  obtain ⟨⟨r1, st1⟩, e1, ⟨rs', st3⟩, e3, e4⟩ := ee
  cases e3
  cases e4
  exact ⟨g, st, r1, st1, R, e1, fun v g1 H1 R1 E1 O1 => k [v] g1 H1 R1 E1 (.cons O1 .nil)⟩
end
end Pf

set_option maxRecDepth 100000
/-! Pf8: slices, pop, index. -/
namespace Pf
open PySem PySem.Spec PyProof.Rows
open L2 (V Hp HO upd upd_same upd_ne Same SqL SqT Dp DpAll Key Vals Cx Inv OpR R2 VK PE PT PA PS PSs TE TT TA TS TO PO tPart tNoPart RelV EP Vis Gl Room Env0 CE CallR tCB TyOf TyX)
section
variable {X : Cx} {sa : SA} (Γ : Nat → Fn)
/-- an optional part -/
def tDO (sa : SA) (ev : St → Option (Option Int × St)) : TO := fun σ H Q => ∃ g st o st', SR sa g st σ H ∧ ev st = some (o, st') ∧ ∀ g' H', SR sa g' st' σ H' → Ext sa g H g' H' → Q o H'
structure DO (X : Cx) (sa : SA) (e : Option Expr) (ev : St → Option (Option Int × St)) : Prop where
  po : PO X e (tDO sa ev)
theorem _root_.L2.PO.wk {X : Cx} {e : Option Expr} {t t' : TO} (h : PO X e t) (f : ∀ σ H Q, t' σ H Q → t σ H Q) : PO X e t' := ⟨fun pins s σ H Q I q => h.run pins s σ H Q I (f _ _ _ q)⟩
theorem do_none : DO X sa none (evalO Γ .nop) := ⟨L2.po_none.wk fun σ H Q ⟨g, st, o, st', R, e, k⟩ => by
  simp only [evalO, Option.some.injEq, Prod.mk.injEq] at e
  obtain ⟨rfl, rfl⟩ := e
  exact k g H R .refl⟩
theorem evalO_some {c : Ex} {st st' : St} {o : Option Int} (e : evalO Γ c st = some (o, st')) (hn : c ≠ .nop) : ∃ i, o = some i ∧ eval Γ c st = some (.dat (.int i), st') := by
  unfold evalO at e
  split at e
  · exact absurd rfl hn
  · split at e
    · rename_i h
      cases e
      exact ⟨_, rfl, h⟩
    · cases e
theorem do_some {e : Expr} {c : Ex} (h : DE X sa e (eval Γ c)) (hn : c ≠ .nop) : DO X sa (some e) (evalO Γ c) := ⟨(L2.po_some h.pe).wk fun σ H Q ⟨g, st, o, st', R, e, k⟩ => by
  obtain ⟨i, rfl, e1⟩ := evalO_some Γ e hn
  exact ⟨g, st, _, st', R, e1, fun v g1 H1 R1 E1 O1 => by
    have O1 : Dt g1.Z v (.int i) := O1
    cases O1
    exact ⟨i, rfl, k g1 H1 R1 E1⟩⟩⟩
theorem de_slc {a : Expr} {lo hi : Option Expr} {ca cl ch : Ex} {p2 pos : Pos} (ha : DE X sa a (eval Γ ca)) (hl : DO X sa lo (evalO Γ cl)) (hh : DO X sa hi (evalO Γ ch)) : DE X sa (.Subscript a (.Slice lo hi none p2) pos) (eval Γ (.slc .cut ca cl ch)) := by
  refine DE.val ((L2.pe_slice (L2.SlR.or L2.sl_list L2.sl_tupA) ha.pe hl.po hh.po).wk fun σ H Q ⟨g, st, r, st', R, e, k⟩ => ?_) rfl
  simp only [eval, Option.bind_eq_some_iff, Option.map_eq_some_iff] at e
  obtain ⟨⟨r1, st1⟩, e1, ⟨l, st2⟩, e2, ⟨h, st3⟩, e3, x, e4, r', e5, e6⟩ := e
  cases e6
  refine ⟨g, st, r1, st1, R, e1, fun v g1 H1 R1 E1 O1 => ⟨g1, st1, l, st2, R1, e2, fun g2 H2 R2 E2 => ⟨g2, st2, h, st3, R2, e3, fun g3 H3 R3 E3 => ?_⟩⟩⟩
  have V1 := (O1.ext (E2.trans E3)).vw R3 e4
  have k' := weakPost ((E1.trans E2).trans E3) k
  cases x <;> simp only [evSlc, reduceCtorEq, Option.some.injEq] at e5
  · subst e5
    obtain ⟨p, vs, rfl, h1, h2⟩ := V1.lst R3.sub
    refine .inl ⟨p, vs, rfl, SqL.of h1, newLst R3 (xs := cutD _ l h) ?_ k'⟩
    unfold L2.cutV cutD
    rw [h2.len]
    exact (h2.drop _).take _
  · subst e5
    obtain ⟨p, vs, rfl, h1, h2⟩ := V1.tup
    refine .inr ⟨p, vs, rfl, SqT.of (R3.sub.at h1), fun hw => ?_, fun hw => newTup R3 (xs := cutD _ l h) ?_ k'⟩
    · refine k' _ g3 H3 R3 .refl ?_
      have key : ∀ ds' : List D, DtAll g3.Z vs ds' → cutD ds' l h = ds' := by
        intro ds' h2
        unfold cutD
        rw [← h2.len, hw.1, hw.2, List.drop_zero, Nat.sub_zero, h2.len, List.take_length]
      rw [key _ h2]
      exact .tup h1 h2
    · unfold L2.cutV cutD
      rw [h2.len]
      exact (h2.drop _).take _
theorem de_rev {a : Expr} {ca : Ex} {kk : Nat} {p1 p2 p3 pos : Pos} (ha : DE X sa a (eval Γ ca)) : DE X sa (.Subscript a (.Slice none none (some (.UnaryOp .USub (.Constant (.int 1) kk p1) p2)) p3) pos) (eval Γ (.slc .rev ca .nop .nop)) := by
  refine DE.val ((L2.pe_rev ha.pe).wk fun σ H Q ⟨g, st, r, st', R, e, k⟩ => ?_) rfl
  simp only [eval, evalO, Option.bind_eq_some_iff, Option.map_eq_some_iff, Option.some.injEq] at e
  obtain ⟨⟨r1, st1⟩, e1, ⟨l, st2⟩, e2, ⟨h, st3⟩, e3, x, e4, r', e5, e6⟩ := e
  cases e6
  cases e2
  cases e3
  refine ⟨g, st, r1, _, R, e1, fun v g1 H1 R1 E1 O1 => ?_⟩
  have V1 := O1.vw R1 e4
  have k' := weakPost E1 k
  cases x <;> simp only [evSlc, reduceCtorEq, Option.some.injEq] at e5
  · subst e5
    obtain ⟨p, vs, rfl, h1, h2⟩ := V1.lst R1.sub
    exact ⟨p, vs, rfl, .inl ⟨SqL.of h1, newLst R1 h2.reverse k'⟩⟩
  · subst e5
    obtain ⟨p, vs, rfl, h1, h2⟩ := V1.tup
    exact ⟨p, vs, rfl, .inr ⟨SqT.of (R1.sub.at h1), newTup R1 h2.reverse k'⟩⟩
/-! ### pop, index: the object is a name -/
theorem pe_name {i : Nat} {x : Str} {pos : Pos} (hN : X.N[i]? = some x) (hv : Vis X.env.scope x) (hd : (x == ("__debug__" : Str)) = false) (hcd : (x == ("__classdict__" : Str)) = false) : PE X (.Name x pos) (L2.tVar i) := L2.pe_var hN hv hd hcd
theorem few_one {e : Expr} {env : Env} {cpos : Pos} (h : okE e = true) : ((backTo cpos (starEach [e] env)).all (fun x => !x.1) && (backToKw cpos (keywordEach [] env)).all (fun x => x.1.isSome)
      && decide ([e].length + ([] : List Keyword).length + (if ([] : List Keyword).isEmpty then 0 else 1) < 30)) = true := by
  rw [starEach_ok h]
  rfl
/-- a slot's own list -/
theorem SR.own_lst {g : Gh} {st : St} {σ : L2.St} {H : Hp} {i : Nat} {xs : List D} (R : SR sa g st σ H) (h : st.get i = .lst xs) : ∃ a vs, σ[i]? = some (some (.ref a)) ∧ H a = some (.lst vs) ∧ DtAll g.Z vs xs := by
  have s := R.slot i
  rw [h] at s
  obtain ⟨a, vs, e, h1, h2, _⟩ := s
  exact ⟨a, vs, e, h1, h2⟩
theorem evalO_nop {st st' : St} {o : Option Int} (e : evalO Γ .nop st = some (o, st')) : o = none ∧ st' = st := by
  simp only [evalO, Option.some.injEq, Prod.mk.injEq] at e
  exact ⟨e.1.symm, e.2.symm⟩
theorem ev_pop {i : Nat} {c : Ex} {st st' : St} {r : Rv} (e : eval Γ (.pop i c) st = some (r, st')) : isLst (st.get i) = true ∧ ∃ p, evalO Γ c st = some p ∧ (match p.2.get i with
      | .lst xs => match p.1 with
        | none => (xs[xs.length - 1]?).map fun d => ((.dat d : Rv), p.2.put i (.lst xs.dropLast))
        | some k => if fitI k then (L2.ixN xs.length k).bind fun j => (xs[j]?).map fun d => ((.dat d : Rv), p.2.put i (.lst (xs.eraseIdx j))) else none
      | _ => none) = some (r, st') := by
  simp only [eval] at e
  split at e
  · rename_i h
    refine ⟨h, ?_⟩
    simp only [Option.bind_eq_some_iff] at e
    exact e
  · cases e
theorem isLst_some {s : Sl} (h : isLst s = true) : ∃ xs, s = .lst xs := by
  cases s <;> first
    | exact ⟨_, rfl⟩
    | cases h
theorem de_pop0 {i : Nat} {x : Str} {p apos cpos : Pos} (hN : X.N[i]? = some x) (hv : Vis X.env.scope x) (hd : (x == ("__debug__" : Str)) = false) (hcd : (x == ("__classdict__" : Str)) = false) (hl : (apos.endLine == cpos.line) = true) :
    DE X sa (.Call (.Attribute (.Name x p) "pop" apos) [] [] cpos) (eval Γ (.pop i .nop)) := by
  refine DE.val ((L2.pe_bm0 PySem.F.plainAttrs_list PySem.F.slot_list_pop PySem.F.type_list_pop L2.mt_pop (pe_name hN hv hd hcd) rfl hl).wk fun σ H Q ⟨g, st, r, st', R, e, k⟩ => ?_) rfl
  obtain ⟨_, e⟩ := ev_pop Γ e
  obtain ⟨⟨o, st1⟩, e1, e2⟩ := e
  obtain ⟨rfl, rfl⟩ := evalO_nop Γ e1
  dsimp only at e2
  split at e2
  · rename_i xs hx
    simp only [Option.map_eq_some_iff] at e2
    obtain ⟨d, e3, e4⟩ := e2
    cases e4
    obtain ⟨a, vs, h1, h2, h3⟩ := R.own_lst hx
    obtain ⟨v, e5, h4⟩ := h3.get e3
    obtain ⟨R2, E2⟩ := R.change hx h1 h3.dropLast
    exact ⟨_, h1, .inl ⟨rfl, vs, SqL.of h2⟩, a, vs, v, rfl, rfl, h2, by rw [h3.len]; exact e5, k v _ _ R2 E2 h4⟩
  · cases e2
theorem de_pop1 {i : Nat} {x : Str} {e : Expr} {c : Ex} {p apos cpos : Pos} (hN : X.N[i]? = some x) (hv : Vis X.env.scope x) (hd : (x == ("__debug__" : Str)) = false) (hcd : (x == ("__classdict__" : Str)) = false) (hl : (apos.endLine == cpos.line) = true)
    (h : DE X sa e (eval Γ c)) (hn : c ≠ .nop) : DE X sa (.Call (.Attribute (.Name x p) "pop" apos) [e] [] cpos) (eval Γ (.pop i c)) := by
  refine DE.val ((L2.pe_bm PySem.F.plainAttrs_list PySem.F.slot_list_pop PySem.F.type_list_pop L2.mt_popAt (pe_name hN hv hd hcd) (L2.pa_cons h.pe L2.pa_nil (starEach_ok h.ok)) rfl (few_one h.ok) hl (starEach_ok h.ok) rfl).wk fun σ H Q ⟨g, st, r, st', R, e, k⟩ => ?_) rfl
  obtain ⟨hl0, e⟩ := ev_pop Γ e
  obtain ⟨⟨o, st1⟩, e1, e2⟩ := e
  obtain ⟨n, rfl, ee1⟩ := evalO_some Γ e1 hn
  replace e1 := ee1
  dsimp only at e2
  split at e2
  · rename_i xs hx
    split at e2
    rotate_left
    · cases e2
    rename_i hf
    simp only [Option.map_eq_some_iff, Option.bind_eq_some_iff] at e2
    obtain ⟨j, ej, d, e3, e4⟩ := e2
    cases e4
    obtain ⟨xs0, hx0⟩ := isLst_some hl0
    obtain ⟨a, vs0, h1, h2, _⟩ := R.own_lst hx0
    refine ⟨_, h1, .inl ⟨rfl, vs0, SqL.of h2⟩, g, st, _, st1, R, e1, fun v g1 H1 R1 E1 O1 => ?_⟩
    have O1 : Dt g1.Z v (.int n) := O1
    cases O1
    obtain ⟨a', vs, h1', h2, h3⟩ := R1.own_lst hx
    rw [h1] at h1'
    cases h1'
    obtain ⟨v, e5, h4⟩ := h3.get e3
    obtain ⟨R2, E2⟩ := R1.change hx h1 (h3.eraseIdx j)
    obtain ⟨i1, i2, i3, i4⟩ := L2.ixN_seq ej
    obtain ⟨I1, I2⟩ : -(2 ^ 63) ≤ n ∧ n < 2 ^ 63 := by
      have := of_decide_eq_true hf
      omega
    exact ⟨a, vs, n, j, v, rfl, rfl, h2, I1, I2, by rw [h3.len]; exact i1, e5, k v _ _ R2 (E1.trans E2) h4⟩
  · cases e2
theorem de_index (hu : X.A.units + 65 < cLine) {i : Nat} {x : Str} {e : Expr} {c : Ex} {p apos cpos : Pos} (hN : X.N[i]? = some x) (hv : Vis X.env.scope x) (hd : (x == ("__debug__" : Str)) = false) (hcd : (x == ("__classdict__" : Str)) = false) (hl : (apos.endLine == cpos.line) = true)
    (h : DE X sa e (eval Γ c)) : DE X sa (.Call (.Attribute (.Name x p) "index" apos) [e] [] cpos) (eval Γ (.index (.var i) c)) := by
  refine DE.val ((L2.pe_bm PySem.F.plainAttrs_list PySem.F.slot_list_index PySem.F.type_list_index (L2.mt_indexD hu) (de_var (sa := sa) Γ hN hv hd hcd).pe (L2.pa_cons h.pe L2.pa_nil (starEach_ok h.ok)) rfl (few_one h.ok) hl (starEach_ok h.ok) rfl).wk fun σ H Q ⟨g, st, r, st', R, e, k⟩ => ?_) rfl
  simp only [eval, Option.bind_eq_some_iff] at e
  obtain ⟨⟨r1, st1⟩, e1, e⟩ := e
  split at e
  rotate_left
  · cases e
  rename_i hil
  simp only [Option.bind_eq_some_iff] at e
  obtain ⟨⟨r2', st2⟩, e2, x, e3, y, e4, e5⟩ := e
  have e1' : eval Γ (.var i) st = some (r1, st1) := by simp only [eval]; exact e1
  split at e5
  rotate_left
  · cases e5
  split at e5
  rotate_left
  · cases e5
  rename_i ds hs
  simp only [Option.map_eq_some_iff] at e5
  obtain ⟨j, e6, e7⟩ := e5
  cases e7
  simp only [Bool.and_eq_true] at hs
  refine ⟨g, st, r1, st1, R, e1', fun v g1 H1 R1 E1 O1 => ⟨?_, g1, st1, r2', _, R1, e2, fun u g2 H2 R2 E2 O2 => ?_⟩⟩
  · -- the object is a list already
    have hty : ∃ ds, res st1 r1 = some (.list ds) := by
      unfold isListO at hil
      split at hil
      · exact ⟨_, by assumption⟩
      · cases hil
    obtain ⟨ds', h1⟩ := hty
    obtain ⟨a, vs, rfl, h2, h3⟩ := (O1.vw R1 h1).lst R1.sub
    exact .inl ⟨rfl, vs, SqL.of h2⟩
  · have V1 := (O1.ext E2).vw R2 e3
    have V2 := O2.vw R2 e4
    obtain ⟨a, vs, rfl, h1, h2⟩ := V1.lst R2.sub
    obtain ⟨hj, hz, hno⟩ := List.findIdx?_eq_some_iff_getElem.mp e6
    refine ⟨a, u, y, ds, j, ds[j], rfl, rfl, V1.dp R2.sub hs.1, V2.dp R2.sub hs.2, shaped_of (by decide) hs.1, shaped_of (by decide) hs.2, List.getElem?_eq_getElem hj, hz, fun m z' hm hzm => ?_, k _ g2 H2 R2 (E1.trans E2) (.int _)⟩
    have := hno m hm
    rw [List.getElem?_eq_getElem (by omega)] at hzm
    cases hzm
    simpa using this
/-! ### list(range(..)), tuple(range(..)) -/
theorem rgV_data {Z : Hp} (a b : Int) : DtAll Z (L2.rgV a b) (rgD a b) := by
  unfold L2.rgV rgD
  have : ∀ l : List Nat, DtAll Z (l.map fun i => V.int (a + (i : Nat))) (l.map fun (k : Nat) => PyData.int (a + (k : Int))) := by
    intro l
    induction l with
    | nil => exact .nil
    | cons x l ih => exact .cons (.int _) ih
  exact this _
theorem rgOk_is {a b : Int} (h : rgOk a b = true) : L2.RgOk a b := by
  simp only [rgOk, Bool.and_eq_true, decide_eq_true_eq] at h
  exact ⟨by omega, by omega, by omega, by omega, by omega⟩
/-- an expression that makes a range -/
def tDR (sa : SA) (ev : St → Option ((Int × Int) × St)) : L2.St → Hp → (Int → Int → Hp → Prop) → Prop := fun σ H Q => ∃ g st a b st', SR sa g st σ H ∧ ev st = some ((a, b), st') ∧ ∀ g' H', SR sa g' st' σ H' → Ext sa g H g' H' → Q a b H'
def evR (a b : Ex) (st : St) : Option ((Int × Int) × St) := (evalO Γ a st).bind fun p => (evalO Γ b p.2).bind fun q => q.1.map fun j => ((p.1.getD 0, j), q.2)
theorem dr_1 {e : Expr} {c : Ex} {p pos : Pos} (hg : Gl X "range") (hm : X.mg "range" = none) (h : DE X sa e (eval Γ c)) (hn : c ≠ .nop) :
    ∃ t, L2.PRg X (.Call (.Name "range" p) [e] [] pos) t ∧ ∀ {σ : L2.St} {H : Hp} {Q : Int → Int → Hp → Prop}, tDR sa (evR Γ .nop c) σ H Q → t σ H Q := by
  refine ⟨_, L2.prg_1 hg hm h.pe (starEach_ok h.ok), fun {σ H Q} ⟨g, st, a, b, st', R, e, k⟩ => ?_⟩
  simp only [evR, Option.bind_eq_some_iff, Option.map_eq_some_iff] at e
  obtain ⟨⟨o1, st1⟩, e1, ⟨o2, st2⟩, e2, j, e3, e4⟩ := e
  obtain ⟨rfl, rfl⟩ := evalO_nop Γ e1
  obtain ⟨i, rfl, ee⟩ := evalO_some Γ e2 hn
  cases e3
  cases e4
  exact ⟨g, _, _, _, R, ee, fun v g1 H1 R1 E1 O1 => by
    have O1 : Dt g1.Z v (.int b) := O1
    cases O1
    exact ⟨b, rfl, k g1 H1 R1 E1⟩⟩
theorem dr_2 {e e' : Expr} {c c' : Ex} {p pos : Pos} (hg : Gl X "range") (hm : X.mg "range" = none) (h : DE X sa e (eval Γ c)) (hn : c ≠ .nop) (h' : DE X sa e' (eval Γ c')) (hn' : c' ≠ .nop) :
    ∃ t, L2.PRg X (.Call (.Name "range" p) [e, e'] [] pos) t ∧ ∀ {σ : L2.St} {H : Hp} {Q : Int → Int → Hp → Prop}, tDR sa (evR Γ c c') σ H Q → t σ H Q := by
  refine ⟨_, L2.prg_2 hg hm h.pe h'.pe (starEach_ok h.ok) (starEach_ok h'.ok) (by rw [starEach_ok h'.ok]; rfl), fun {σ H Q} ⟨g, st, a, b, st', R, e, k⟩ => ?_⟩
  simp only [evR, Option.bind_eq_some_iff, Option.map_eq_some_iff] at e
  obtain ⟨⟨o1, st1⟩, e1, ⟨o2, st2⟩, e2, j, e3, e4⟩ := e
  obtain ⟨i, rfl, ee1⟩ := evalO_some Γ e1 hn
  obtain ⟨i2, rfl, ee2⟩ := evalO_some Γ e2 hn'
  cases e3
  cases e4
  refine ⟨g, _, _, _, R, ee1, fun v g1 H1 R1 E1 O1 => ⟨g1, _, _, _, R1, ee2, fun u g2 H2 R2 E2 O2 => ?_⟩⟩
  have O1 : Dt g1.Z v (.int i) := O1
  cases O1
  have O2 : Dt g2.Z u (.int b) := O2
  cases O2
  exact ⟨i, b, rfl, rfl, k g2 H2 R2 (E1.trans E2)⟩
theorem rd_rng {a b : Ex} {tup : Bool} {t : L2.St → Hp → (Int → Int → Hp → Prop) → Prop} (ht : ∀ {σ : L2.St} {H : Hp} {Q : Int → Int → Hp → Prop}, tDR sa (evR Γ a b) σ H Q → t σ H Q) {σ : L2.St} {H : Hp} {Q : VK} (h : tD sa (eval Γ (.rngL tup a b)) σ H Q) :
    if tup then L2.tTupRg t σ H Q else L2.tLstRg t σ H Q := by
  obtain ⟨g, st, r, st', R, e, k⟩ := h
  simp only [eval, Option.bind_eq_some_iff] at e
  obtain ⟨⟨o1, st1⟩, e1, ⟨o2, st2⟩, e2, e3⟩ := e
  dsimp only at e3
  cases o2 with
  | none => cases e3
  | some j =>
    dsimp only at e3
    split at e3
    rotate_left
    · cases e3
    rename_i hok
    cases e3
    have ev : evR Γ a b st = some ((o1.getD 0, j), st') := by
      simp only [evR, e1, Option.bind_some]
      rw [show evalO Γ b (o1, st1).2 = some (some j, st') from e2]
      rfl
    cases tup with
    | true =>
      simp only [if_true]
      exact ht ⟨g, st, _, _, st', R, ev, fun g1 H1 R1 E1 => ⟨rgOk_is hok, newTup R1 (rgV_data _ _) (weakPost E1 k)⟩⟩
    | false =>
      simp only [Bool.false_eq_true, if_false]
      exact ht ⟨g, st, _, _, st', R, ev, fun g1 H1 R1 E1 => ⟨rgOk_is hok, newLst R1 (rgV_data _ _) (weakPost E1 k)⟩⟩
theorem de_rngL (hc : X.calm = true) {x : Str} {e : Expr} {a b : Ex} {p pos : Pos} {tup : Bool} (hx : x = if tup then ("tuple" : Str) else ("list" : Str)) (hg : Gl X x) (hm : X.mg x = none) (hok : okE e = true)
    (ht : ∃ t, L2.PRg X e t ∧ ∀ {σ : L2.St} {H : Hp} {Q : Int → Int → Hp → Prop}, tDR sa (evR Γ a b) σ H Q → t σ H Q) : DE X sa (.Call (.Name x p) [e] [] pos) (eval Γ (.rngL tup a b)) := by
  obtain ⟨t, hp, ht⟩ := ht
  cases tup with
  | true =>
    simp only [if_true] at hx
    subst hx
    exact DE.val ((L2.pe_tupRg hc hg hm hp (starEach_ok hok)).wk fun σ H Q q => by simpa using rd_rng Γ ht q) rfl
  | false =>
    simp only [Bool.false_eq_true, if_false] at hx
    subst hx
    exact DE.val ((L2.pe_listRg hc hg hm hp (starEach_ok hok)).wk fun σ H Q q => by simpa using rd_rng Γ ht q) rfl
end
end Pf

set_option maxRecDepth 100000
/-! Pf8b: iterables, targets. -/
namespace Pf
open PySem PySem.Spec PyProof.Rows
open L2 (V Hp HO upd upd_same upd_ne Same SqL SqT Dp DpAll Key Vals Cx Inv OpR R2 VK PE PT PA PS PSs PI PG PGs TE TT TA TS TI TG TGs It Itl Itt Itr Ite Itz RelV EP Vis Loc Gl Room Env0 CE CallR tCB TyOf TyX)

/-- locked dicts stand so -/
def Holds (L : List (Addr × HO)) (H : Hp) : Prop := ∀ p ∈ L, H p.1 = some p.2
def Held (sa : SA) (L : List (Addr × HO)) (g : Gh) (H : Hp) : Prop := ∀ p ∈ L, H p.1 = some p.2 ∧ g.w p.1 = none ∧ NotSrc sa p.1
theorem held0 {sa : SA} {g : Gh} {H : Hp} : Held sa [] g H := fun p h => by simp at h
theorem Held.hs {sa : SA} {L : List (Addr × HO)} {g : Gh} {H : Hp} (h : Held sa L g H) : Holds L H := fun p q => (h p q).1
theorem Held.ext {sa : SA} {L : List (Addr × HO)} {g g' : Gh} {H H' : Hp} (h : Held sa L g H) (E : Ext sa g H g' H') : Held sa L g' H' := fun p q => by
  obtain ⟨h1, h2, h3⟩ := h p q
  obtain ⟨e1, e2, _⟩ := E.keep _ _ h1 h2 h3
  exact ⟨e1, e2, h3⟩
/-- J yields the data ds in turn, as long as Z's objects stand -/
structure Yields (J : It) (L : List (Addr × HO)) (Z : Hp) (ds : List D) : Prop where
  go : ∀ i H, Sub Z H → Holds L H → i < ds.length → J.go i H
  stop : ∀ H, Sub Z H → Holds L H → J.stop ds.length H
  yld : ∀ i H v H', Sub Z H → Holds L H → i < ds.length → J.yld i H v H' → ∃ d, ds[i]? = some d ∧ ((H' = H ∧ Dt Z v d) ∨ (∃ T vs es, v = .ref T ∧ H T = none ∧ H' = upd H T (.tup vs) ∧ d = .tuple es ∧ DtAll Z vs es) ∨
    ∃ T vs es, v = .ref T ∧ H T = some (.tup vs) ∧ H' = H ∧ d = .tuple es ∧ DtAll Z vs es)
section
variable {Z : Hp} {K : PySem.W.Frag}
theorem zip_at {ds es : List D} {i : Nat} {d d' : D} (e : ds[i]? = some d) (e' : es[i]? = some d') : ((ds.zip es).map fun z => PyData.tuple [z.1, z.2])[i]? = some (.tuple [d, d']) := by
  have h : (ds.zip es)[i]? = some (d, d') := List.getElem?_zip_eq_some.mpr ⟨e, e'⟩
  rw [List.getElem?_map, h]
  rfl
theorem yl_list {a : Addr} {vs : List V} {ds : List D} (h : Z a = some (.lst vs)) (hd : DtAll Z vs ds) : Yields (Itl K a) [] Z ds where
  go := fun i H S _ hi => ⟨vs, vs[i]'(by rw [hd.len]; exact hi), SqL.of (S.at h), List.getElem?_eq_getElem _⟩
  stop := fun H S _ => ⟨vs, SqL.of (S.at h), by rw [hd.len]; exact Nat.le_refl _⟩
  yld := fun i H v H' S _ hi y => by
    obtain ⟨rfl, y⟩ := y
    obtain ⟨d, e, r⟩ := hd.get' (y vs (SqL.of (S.at h)))
    exact ⟨d, e, .inl ⟨rfl, r⟩⟩
theorem yl_tup {a : Addr} {vs : List V} {ds : List D} (h : Z a = some (.tup vs)) (hd : DtAll Z vs ds) : Yields (Itt K a) [] Z ds where
  go := fun i H S _ hi => ⟨vs, vs[i]'(by rw [hd.len]; exact hi), SqT.of (S.at h), List.getElem?_eq_getElem _⟩
  stop := fun H S _ => ⟨vs, SqT.of (S.at h), by rw [hd.len]; exact Nat.le_refl _⟩
  yld := fun i H v H' S _ hi y => by
    obtain ⟨rfl, y⟩ := y
    obtain ⟨d, e, r⟩ := hd.get' (y vs (SqT.of (S.at h)))
    exact ⟨d, e, .inl ⟨rfl, r⟩⟩
theorem yl_rng (lo : Int) (n : Nat) : Yields (Itr lo n) [] Z ((List.range n).map fun (k : Nat) => .int (lo + (k : Int))) where
  go := fun i H S _ hi => by
    show i < n
    simpa using hi
  stop := fun H S _ => by show n ≤ _; simp
  yld := fun i H v H' S _ hi y => by
    obtain ⟨rfl, rfl⟩ := y
    have hi : i < n := by simpa using hi
    exact ⟨.int (lo + i), by simp [hi], .inl ⟨rfl, .int _⟩⟩
theorem yl_enm {a : Addr} {vs : List V} {ds : List D} (h : Z a = some (.lst vs)) (hd : DtAll Z vs ds) : Yields (Ite K a) [] Z ((ds.zipIdx).map fun q => .tuple [.int q.2, q.1]) where
  go := fun i H S _ hi => ⟨vs, vs[i]'(by rw [hd.len]; simpa using hi), SqL.of (S.at h), List.getElem?_eq_getElem _⟩
  stop := fun H S _ => ⟨vs, SqL.of (S.at h), by rw [hd.len]; simp⟩
  yld := fun i H v H' S _ hi y => by
    obtain ⟨T, x, rfl, hT, rfl, y⟩ := y
    obtain ⟨d, e, r⟩ := hd.get' (y vs (SqL.of (S.at h)))
    exact ⟨.tuple [.int i, d], by simp [e], .inr (.inl ⟨T, _, _, rfl, hT, rfl, rfl, .cons (.int _) (.cons r .nil)⟩)⟩
theorem yl_enmT {a : Addr} {vs : List V} {ds : List D} (h : Z a = some (.tup vs)) (hd : DtAll Z vs ds) : Yields (PfE.IteT K a) [] Z ((ds.zipIdx).map fun q => .tuple [.int q.2, q.1]) where
  go := fun i H S _ hi => ⟨vs, vs[i]'(by rw [hd.len]; simpa using hi), SqT.of (S.at h), List.getElem?_eq_getElem _⟩
  stop := fun H S _ => ⟨vs, SqT.of (S.at h), by rw [hd.len]; simp⟩
  yld := fun i H v H' S _ hi y => by
    obtain ⟨T, x, rfl, hT, rfl, y⟩ := y
    obtain ⟨d, e, r⟩ := hd.get' (y vs (SqT.of (S.at h)))
    exact ⟨.tuple [.int i, d], by simp [e], .inr (.inl ⟨T, _, _, rfl, hT, rfl, rfl, .cons (.int _) (.cons r .nil)⟩)⟩
theorem yl_zip {a b : Addr} {vs ws : List V} {ds es : List D} (h : Z a = some (.lst vs)) (hd : DtAll Z vs ds) (h' : Z b = some (.lst ws)) (hd' : DtAll Z ws es) : Yields (Itz K a b) [] Z ((ds.zip es).map fun z => .tuple [z.1, z.2]) where
  go := fun i H S _ hi => by
    have hi : i < ds.length ∧ i < es.length := by simpa [Nat.lt_min] using hi
    exact ⟨vs, ws, vs[i]'(by rw [hd.len]; exact hi.1), ws[i]'(by rw [hd'.len]; exact hi.2), SqL.of (S.at h), SqL.of (S.at h'), List.getElem?_eq_getElem _, List.getElem?_eq_getElem _⟩
  stop := fun H S _ => ⟨vs, ws, SqL.of (S.at h), SqL.of (S.at h'), by
    rw [hd.len, hd'.len, List.length_map, List.length_zip]
    omega⟩
  yld := fun i H v H' S _ hi y => by
    obtain ⟨T, x, w, rfl, hT, rfl, y1, y2⟩ := y
    obtain ⟨d, e, r⟩ := hd.get' (y1 vs (SqL.of (S.at h)))
    obtain ⟨d', e', r'⟩ := hd'.get' (y2 ws (SqL.of (S.at h')))
    exact ⟨.tuple [d, d'], zip_at e e', .inr (.inl ⟨T, _, _, rfl, hT, rfl, rfl, .cons r (.cons r' .nil)⟩)⟩
theorem yl_zipT {a b : Addr} {vs ws : List V} {ds es : List D} (h : Z a = some (.tup vs)) (hd : DtAll Z vs ds) (h' : Z b = some (.tup ws)) (hd' : DtAll Z ws es) : Yields (RZ.ItzT K a b) [] Z ((ds.zip es).map fun z => .tuple [z.1, z.2]) where
  go := fun i H S _ hi => by
    have hi : i < ds.length ∧ i < es.length := by simpa [Nat.lt_min] using hi
    exact ⟨vs, ws, vs[i]'(by rw [hd.len]; exact hi.1), ws[i]'(by rw [hd'.len]; exact hi.2), SqT.of (S.at h), SqT.of (S.at h'), List.getElem?_eq_getElem _, List.getElem?_eq_getElem _⟩
  stop := fun H S _ => ⟨vs, ws, SqT.of (S.at h), SqT.of (S.at h'), by
    rw [hd.len, hd'.len, List.length_map, List.length_zip]
    omega⟩
  yld := fun i H v H' S _ hi y => by
    obtain ⟨T, x, w, rfl, hT, rfl, y1, y2⟩ := y
    obtain ⟨d, e, r⟩ := hd.get' (y1 vs (SqT.of (S.at h)))
    obtain ⟨d', e', r'⟩ := hd'.get' (y2 ws (SqT.of (S.at h')))
    exact ⟨.tuple [d, d'], zip_at e e', .inr (.inl ⟨T, _, _, rfl, hT, rfl, rfl, .cons r (.cons r' .nil)⟩)⟩
open PfZ (Kd SqK ItzS) in
theorem yl_zipS {k1 k2 : Kd} {a b : Addr} {vs ws : List V} {ds es : List D} (h : ∀ H, Sub Z H → SqK k1 K H a vs) (hd : DtAll Z vs ds) (h' : ∀ H, Sub Z H → SqK k2 K H b ws) (hd' : DtAll Z ws es) (hl : ds.length = es.length) : Yields (ItzS K k1 k2 a b) [] Z ((ds.zip es).map fun z => .tuple [z.1, z.2]) where
  go := fun i H S _ hi => by
    have hi : i < ds.length ∧ i < es.length := by simpa [Nat.lt_min] using hi
    exact ⟨vs, ws, vs[i]'(by rw [hd.len]; exact hi.1), ws[i]'(by rw [hd'.len]; exact hi.2), h H S, h' H S, List.getElem?_eq_getElem _, List.getElem?_eq_getElem _⟩
  stop := fun H S _ => ⟨vs, ws, h H S, h' H S, by
    rw [hd.len, List.length_map, List.length_zip]
    omega, by
    rw [hd'.len, List.length_map, List.length_zip]
    omega⟩
  yld := fun i H v H' S _ hi y => by
    obtain ⟨T, x, w, rfl, hT, rfl, y1, y2⟩ := y
    obtain ⟨d, e, r⟩ := hd.get' (y1 vs (h H S))
    obtain ⟨d', e', r'⟩ := hd'.get' (y2 ws (h' H S))
    exact ⟨.tuple [d, d'], zip_at e e', .inr (.inl ⟨T, _, _, rfl, hT, rfl, rfl, .cons r (.cons r' .nil)⟩)⟩
end
section
variable {X : Cx} {sa : SA} (Γ : Nat → Fn)
theorem SR.turn {g : Gh} {st : St} {σ : L2.St} {H H' : Hp} {L : List (Addr × HO)} {Z : Hp} {J : It} {ds : List D} {i : Nat} {v : V} (R : SR sa g st σ H) (Y : Yields J L Z ds) (hl : Holds L H) (z : Same Z g.Z) (hi : i < ds.length) (y : J.yld i H v H') :
    ∃ g' d, ds[i]? = some d ∧ SR sa g' st σ H' ∧ Ext sa g H g' H' ∧ Dt g'.Z v d := by
  obtain ⟨d, e, h⟩ := Y.yld i H v H' (z.subT R.sub) hl hi y
  rcases h with ⟨rfl, r⟩ | ⟨T, vs, es, rfl, hT, rfl, rfl, r⟩ | ⟨T, vs, es, rfl, hT, rfl, rfl, r⟩
  · exact ⟨g, d, e, R, .refl, dtMono z _ r⟩
  · obtain ⟨R2, E2, zz⟩ := R.newIce (o := .tup vs) hT
    exact ⟨_, _, e, R2, E2, .tup upd_same (dtAllMono (z.trans zz) _ r)⟩
  · obtain ⟨g', R', E', O'⟩ := R.iceT hT (dtAllMono z _ r)
    exact ⟨g', _, e, R', E', O'⟩
def tDI (sa : SA) (ev : St → Option (List D × St)) : TI := fun σ H P => ∃ g st ds st', SR sa g st σ H ∧ ev st = some (ds, st') ∧ ∀ J L g' H', SR sa g' st' σ H' → Ext sa g H g' H' → Held sa L g' H' → Yields J L g'.Z ds → P J H'
structure DI (X : Cx) (sa : SA) (tg it : Expr) (ev : St → Option (List D × St)) : Prop where
  pi : PI X tg it (tDI sa ev)
  fold : ∀ x, foldedSetIterable it X.env x = pure x
theorem _root_.L2.PI.wk {X : Cx} {tg e : Expr} {t t' : TI} (h : PI X tg e t) (f : ∀ σ H Q, t' σ H Q → t σ H Q) : PI X tg e t' := ⟨fun pins s σ H Q I q => h.run pins s σ H Q I (f _ _ _ q)⟩
/-- a list or a tuple: whichever comes -/
def iSeq (K : PySem.W.Frag) (tl : TE) : TI := fun σ H R => tl σ H fun x H1 => ∃ a, x = .ref a ∧ ((∃ xs, SqL K H1 a xs ∧ R (Itl K a) H1) ∨ (∃ xs, SqT K H1 a xs ∧ R (Itt K a) H1))
theorem pi_seq {tg l : Expr} {tl : TE} (hl : PE X l tl) : PI X tg l (iSeq X.K tl) := by
  refine ⟨fun pins s σ H R I h => ?_⟩
  refine L2.thn (hl.run pins s σ H _ I h) fun v s1 ⟨x, H1, I1, r1, q1⟩ => ?_
  obtain ⟨a, e, q⟩ := q1
  subst e
  cases r1
  have fin : ∀ b ∈ [s1.heap.objs.size], L2.FpOk X pins H1 b := fun b hb => by
    have e : b = s1.heap.objs.size := by simpa using hb
    subst e
    exact I1.fpOk (Nat.le_refl _) (I1.hok.fresh (Nat.le_refl _))
  rcases q with ⟨xs, hq, q⟩ | ⟨xs, hq, q⟩
  · obtain ⟨its, rv, p, hz⟩ := I1.list hq
    refine wpAny_pyIter_list p.isList ?_
    exact ⟨s1.heap.objs.size, [s1.heap.objs.size], _, _, H1, rfl, I1.kept (t' := s1.toks) fun b o e => Heap.get?_push_of_some _ e, L2.turn_list a _, ⟨_, Heap.get?_push_size _ rfl, rfl, rfl⟩, fin, q⟩
  · obtain ⟨its, rv, p, hz⟩ := I1.tuple hq
    refine wpAny_pyIter_tuple (show s1.heap.IsTuple a its.toArray from p) ?_
    exact ⟨s1.heap.objs.size, [s1.heap.objs.size], _, _, H1, rfl, I1.kept (t' := s1.toks) fun b o e => Heap.get?_push_of_some _ e, L2.turn_tuple a _, ⟨_, Heap.get?_push_size _ rfl, rfl, rfl⟩, fin, q⟩
theorem di_seq {tg e : Expr} {c : Ex} (h : DE X sa e (eval Γ c)) : DI X sa tg e (evalI Γ (.seq c)) := by
  refine ⟨(pi_seq h.pe).wk fun σ H Q ⟨g, st, ds, st', R, e, k⟩ => ?_, folded_ok h.ok⟩
  simp only [evalI, Option.bind_eq_some_iff, Option.map_eq_some_iff] at e
  obtain ⟨⟨r1, st1⟩, e1, ⟨d, st2⟩, e2, ds', e3, e4⟩ := e
  cases e4
  refine ⟨g, st, r1, st1, R, e1, fun v g1 H1 R1 E1 O1 => ?_⟩
  obtain ⟨g2, R2, E2, z2, O2⟩ := frz_ok R1 E1 O1 e2
  cases d <;> simp only [items, reduceCtorEq, Option.some.injEq] at e3
  · subst e3
    cases O2 with
    | lst h1 h2 => exact ⟨_, rfl, .inl ⟨_, SqL.of (R2.sub.at h1), k _ [] g2 H1 R2 E2 held0 (yl_list h1 h2)⟩⟩
  · subst e3
    cases O2 with
    | tup h1 h2 => exact ⟨_, rfl, .inr ⟨_, SqT.of (R2.sub.at h1), k _ [] g2 H1 R2 E2 held0 (yl_tup h1 h2)⟩⟩
theorem di_rng1 {tg a : Expr} {c : Ex} {p pos : Pos} (hg : Gl X "range") (hm : X.mg "range" = none) (h : DE X sa a (eval Γ c)) : DI X sa tg (.Call (.Name "range" p) [a] [] pos) (evalI Γ (.rng1 c)) := by
  refine ⟨(L2.pi_range1 hg hm (L2.pa_cons h.pe L2.pa_nil (starEach_ok h.ok)) (starEach_ok h.ok)).wk fun σ H Q ⟨g, st, ds, st', R, e, k⟩ => ?_, fun _ => rfl⟩
  simp only [evalI, Option.bind_eq_some_iff] at e
  obtain ⟨⟨r1, st1⟩, e1, e2⟩ := e
  dsimp only at e2
  split at e2
  rotate_left
  · cases e2
  split at e2
  rotate_left
  · cases e2
  rename_i n hn
  cases e2
  simp only [Bool.and_eq_true, decide_eq_true_eq] at hn
  refine ⟨g, st, _, _, R, e1, fun v g1 H1 R1 E1 O1 => ?_⟩
  have O1 : Dt g1.Z v (.int n) := O1
  cases O1
  refine ⟨n, rfl, by omega, by omega, k _ [] g1 H1 R1 E1 held0 ?_⟩
  have := yl_rng (Z := g1.Z) 0 n.toNat
  simpa using this
theorem di_rng2 {tg a b : Expr} {ca cb : Ex} {p pos : Pos} (hg : Gl X "range") (hm : X.mg "range" = none) (ha : DE X sa a (eval Γ ca)) (hb : DE X sa b (eval Γ cb)) : DI X sa tg (.Call (.Name "range" p) [a, b] [] pos) (evalI Γ (.rng2 ca cb)) := by
  refine ⟨(L2.pi_range2 hg hm (L2.pa_cons ha.pe (L2.pa_cons hb.pe L2.pa_nil (starEach_ok hb.ok)) (starEach_ok ha.ok)) (by rw [starEach_ok ha.ok, starEach_ok hb.ok]; rfl) (starEach_ok hb.ok)).wk fun σ H Q ⟨g, st, ds, st', R, e, k⟩ => ?_, fun _ => rfl⟩
  simp only [evalI, Option.bind_eq_some_iff] at e
  obtain ⟨⟨r1, st1⟩, e1, ⟨r2, st2⟩, e1', e2⟩ := e
  dsimp only at e2
  split at e2
  rotate_left
  · cases e2
  split at e2
  rotate_left
  · cases e2
  rename_i m n hn
  cases e2
  simp only [Bool.and_eq_true, decide_eq_true_eq] at hn
  refine ⟨g, st, _, st1, R, e1, fun v g1 H1 R1 E1 O1 => ⟨g1, st1, _, _, R1, e1', fun u g2 H2 R2 E2 O2 => ?_⟩⟩
  have O1 : Dt g1.Z v (.int m) := O1
  cases O1
  have O2 : Dt g2.Z u (.int n) := O2
  cases O2
  exact ⟨m, n, rfl, ⟨by omega, by omega, by omega, by omega⟩, k _ [] g2 H2 R2 (E1.trans E2) held0 (yl_rng m (n - m).toNat)⟩
theorem di_enm {e : Expr} {c : Ex} {p pos tpos : Pos} {elts : List Expr} {kk : Nat} (hg : Gl X "enumerate") (hm : X.mg "enumerate" = none) (h : DE X sa e (eval Γ c)) : DI X sa (.Tuple elts kk tpos) (.Call (.Name "enumerate" p) [e] [] pos) (evalI Γ (.enm c)) := by
  refine ⟨(PfE.pi_enumA hg hm (L2.pa_cons h.pe L2.pa_nil (starEach_ok h.ok)) (starEach_ok h.ok)).wk fun σ H Q ⟨g, st, ds, st', R, e, k⟩ => ?_, fun _ => rfl⟩
  simp only [evalI, Option.bind_eq_some_iff, Option.map_eq_some_iff] at e
  obtain ⟨⟨r1, st1⟩, e1, ⟨d, st2⟩, e2, ds', e3, e4⟩ := e
  cases e4
  refine ⟨g, st, r1, st1, R, e1, fun v g1 H1 R1 E1 O1 => ?_⟩
  obtain ⟨g2, R2, E2, z2, O2⟩ := frz_ok R1 E1 O1 e2
  cases d <;> simp only [items, reduceCtorEq, Option.some.injEq] at e3
  · subst e3
    cases O2 with
    | lst h1 h2 => exact .inl ⟨_, _, rfl, SqL.of (R2.sub.at h1), k _ [] g2 H1 R2 E2 held0 (yl_enm h1 h2)⟩
  · subst e3
    cases O2 with
    | tup h1 h2 => exact .inr ⟨_, _, rfl, SqT.of (R2.sub.at h1), k _ [] g2 H1 R2 E2 held0 (yl_enmT h1 h2)⟩
theorem di_zip {e e' : Expr} {c c' : Ex} {p pos tpos : Pos} {elts : List Expr} {kk : Nat} (hg : Gl X "zip") (hm : X.mg "zip" = none) (h : DE X sa e (eval Γ c)) (h' : DE X sa e' (eval Γ c')) : DI X sa (.Tuple elts kk tpos) (.Call (.Name "zip" p) [e, e'] [] pos) (evalI Γ (.zip false c c')) := by
  refine ⟨(RZ.pi_zipA hg hm (L2.pa_cons h.pe (L2.pa_cons h'.pe L2.pa_nil (starEach_ok h'.ok)) (starEach_ok h.ok)) (starEach_ok h.ok) (by rw [starEach_ok h'.ok]; rfl)).wk fun σ H Q ⟨g, st, ds, st', R, e, k⟩ => ?_, fun _ => rfl⟩
  simp only [evalI, Option.bind_eq_some_iff, Option.map_eq_some_iff] at e
  obtain ⟨⟨r1, st1⟩, e1, ⟨d, st2⟩, e2, ⟨r3, st3⟩, e3, ⟨d', st4⟩, e4, ds', e5, e6⟩ := e
  cases e6
  refine ⟨g, st, r1, st1, R, e1, fun v g1 H1 R1 E1 O1 => ?_⟩
  obtain ⟨g2, R2, E2, z2, O2⟩ := frz_ok R1 E1 O1 e2
  refine ⟨g2, st2, r3, st3, R2, e3, fun u g3 H3 R3 E3 O3 => ?_⟩
  obtain ⟨g4, R4, E4, z4, O4⟩ := frz_ok R3 E3 O3 e4
  have O2' : Dt g4.Z v d := dtMono (E3.z.trans z4) _ O2
  cases d <;> cases d' <;> simp only [zipOf, reduceCtorEq, Bool.false_eq_true, if_false, Option.some.injEq] at e5
  · subst e5
    cases O2' with
    | lst h1 h2 =>
      cases O4 with
      | lst h3 h4 => exact ⟨_, _, _, _, rfl, .inl ⟨SqL.of (R4.sub.at h1), SqL.of (R4.sub.at h3), k _ [] g4 H3 R4 (E2.trans E4) held0 (yl_zip h1 h2 h3 h4)⟩⟩
  · subst e5
    cases O2' with
    | tup h1 h2 =>
      cases O4 with
      | tup h3 h4 => exact ⟨_, _, _, _, rfl, .inr ⟨SqT.of (R4.sub.at h1), SqT.of (R4.sub.at h3), k _ [] g4 H3 R4 (E2.trans E4) held0 (yl_zipT h1 h2 h3 h4)⟩⟩

theorem srcD_at {K : PySem.W.Frag} {Z : Hp} {v : V} {d : D} {xs : List D} (O : Dt Z v d) (e : items d = some xs) : ∃ (k : PfZ.Kd) (a : Addr) (vs : List V), v = .ref a ∧ (∀ H, Sub Z H → PfZ.SqK k K H a vs) ∧ DtAll Z vs xs := by
  cases d <;> simp only [items, reduceCtorEq, Option.some.injEq] at e
  · subst e
    cases O with
    | lst h1 h2 => exact ⟨.l, _, _, rfl, fun H S => SqL.of (S.at h1), h2⟩
  · subst e
    cases O with
    | tup h1 h2 => exact ⟨.t, _, _, rfl, fun H S => SqT.of (S.at h1), h2⟩
theorem di_zipS {e e' : Expr} {c c' : Ex} {p pos tpos kp p3 : Pos} {elts : List Expr} {kk j : Nat} (hg : Gl X "zip") (hm : X.mg "zip" = none) (h : DE X sa e (eval Γ c)) (h' : DE X sa e' (eval Γ c')) : DI X sa (.Tuple elts kk tpos) (.Call (.Name "zip" p) [e, e'] [⟨some "strict", .Constant (.bool true) j p3, kp⟩] pos) (evalI Γ (.zip true c c')) := by
  have hs := starEach_ok (es := [e']) (env := X.env) h.ok
  refine ⟨(PfZ.pi_zipS hg hm (L2.pa_cons h.pe (L2.pa_cons h'.pe L2.pa_nil (starEach_ok h'.ok)) (starEach_ok h.ok)) (starEach_ok h.ok) (by rw [hs, starEach_ok h'.ok]; rfl) (by rw [hs, starEach_ok h'.ok]; rfl)).wk fun σ H Q ⟨g, st, ds, st', R, e, k⟩ => ?_, fun _ => rfl⟩
  simp only [evalI, Option.bind_eq_some_iff, Option.map_eq_some_iff] at e
  obtain ⟨⟨r1, st1⟩, e1, ⟨d, st2⟩, e2, ⟨r3, st3⟩, e3, ⟨d', st4⟩, e4, ds', e5, e6⟩ := e
  cases e6
  refine ⟨g, st, r1, st1, R, e1, fun v g1 H1 R1 E1 O1 => ?_⟩
  obtain ⟨g2, R2, E2, z2, O2⟩ := frz_ok R1 E1 O1 e2
  refine ⟨g2, st2, r3, st3, R2, e3, fun u g3 H3 R3 E3 O3 => ?_⟩
  obtain ⟨g4, R4, E4, z4, O4⟩ := frz_ok R3 E3 O3 e4
  have O2' : Dt g4.Z v d := dtMono (E3.z.trans z4) _ O2
  simp only [zipOf, if_true, Option.bind_eq_some_iff] at e5
  obtain ⟨xs, ex, ys, ey, e5⟩ := e5
  split at e5
  rotate_left
  · cases e5
  rename_i hl
  cases e5
  obtain ⟨k1, a, vs, rfl, q1, q2⟩ := srcD_at (K := X.K) O2' ex
  obtain ⟨k2, b, ws, rfl, q3, q4⟩ := srcD_at (K := X.K) O4 ey
  exact ⟨k1, k2, a, b, vs, ws, rfl, q1 _ R4.sub, q3 _ R4.sub, k _ [] g4 H3 R4 (E2.trans E4) held0 (yl_zipS q1 q2 q3 q4 hl)⟩

/-! ### targets -/
mutual
def tgSlots : Tg → List Nat
  | .name i => [i]
  | .tup ts => tgsSlots ts
def tgsSlots : List Tg → List Nat
  | [] => []
  | t :: ts => tgSlots t ++ tgsSlots ts
end
def SameOut (own : List Nat) (σ σ' : L2.St) : Prop := σ'.length = σ.length ∧ ∀ i, i ∉ own → σ'[i]? = σ[i]?
def gD (sa : SA) (tg : Tg) : TG := fun v σ H Q => ∃ g st d st', SR sa g st σ H ∧ Dt g.Z v d ∧ bindT tg d st = some st' ∧ ∀ σ', SR sa g st' σ' H → SameOut (tgSlots tg) σ σ' → Q σ' H
def gDs (sa : SA) (ts : List Tg) : TGs := fun vs σ H Q => ∃ g st ds st', SR sa g st σ H ∧ DtAll g.Z vs ds ∧ bindTs ts ds st = some st' ∧ ∀ σ', SR sa g st' σ' H → SameOut (tgsSlots ts) σ σ' → Q σ' H
theorem _root_.L2.PG.wk {X : Cx} {e : Expr} {t t' : TG} (h : PG X e t) (f : ∀ v σ H Q, t' v σ H Q → t v σ H Q) : PG X e t' := ⟨fun pins s σ H v u Q I r q => h.run pins s σ H v u Q I r (f _ _ _ _ q)⟩
theorem _root_.L2.PGs.wk {X : Cx} {e : List Expr} {t t' : TGs} (h : PGs X e t) (f : ∀ v σ H Q, t' v σ H Q → t v σ H Q) : PGs X e t' := ⟨fun pins s σ H v u Q I r q => h.run pins s σ H v u Q I r (f _ _ _ _ q)⟩
/-- no starred target -/
def okT : Expr → Bool
  | .Starred .. => false
  | _ => true
structure DG (X : Cx) (sa : SA) (e : Expr) (tg : Tg) : Prop where
  pg : PG X e (gD sa tg)
  ok : okT e = true
structure DGs (X : Cx) (sa : SA) (es : List Expr) (ts : List Tg) : Prop where
  pg : PGs X es (gDs sa ts)
  len : (assignEach es X.env).length = ts.length
  st : (assignEach es X.env).findIdx? (·.1) = none
theorem SR.bind {g : Gh} {st : St} {σ : L2.St} {H : Hp} {i : Nat} {v : V} {d : D} (R : SR sa g st σ H) (h : Dt g.Z v d) : SR sa g (st.put i (.dat d)) (σ.set i (some v)) H := R.put ⟨v, rfl, h⟩
theorem sameOut_set {σ : L2.St} {i : Nat} {o : Option V} : SameOut [i] σ (σ.set i o) := ⟨List.length_set, fun j hj => List.getElem?_set_ne (fun e => hj (by simp [e]))⟩
theorem dg_name (hN : X.N.Nodup) {i : Nat} {x : Str} {pos : Pos} (hi : X.N[i]? = some x) (hx : Loc X.env.scope x) (hf : X.fn x = true ∨ X.env.scope.names.lookup x = some .local) : DG X sa (.Name x pos) (.name i) := by
  refine ⟨(L2.pg_name hN hi hx hf).wk fun v σ H Q ⟨g, st, d, st', R, r, e, k⟩ => ?_, rfl⟩
  simp only [bindT] at e
  cases e
  exact k _ (R.bind r) sameOut_set
theorem dgs_nil : DGs X sa [] [] := by
  refine ⟨L2.pgs_nil.wk fun vs σ H Q ⟨g, st, ds, st', R, r, e, k⟩ => ?_, rfl, rfl⟩
  cases r with
  | nil =>
    simp only [bindTs] at e
    cases e
    exact ⟨rfl, k σ R ⟨rfl, fun _ _ => rfl⟩⟩
  | cons _ _ => simp only [bindTs] at e; cases e
theorem assignEach_ok {e : Expr} {es : List Expr} {env : Env} (h : okT e = true) : assignEach (e :: es) env = (false, assign e env) :: assignEach es env := by
  cases e <;> first
    | rfl
    | cases h
theorem dgs_cons {e : Expr} {es : List Expr} {t : Tg} {ts : List Tg} (h : DG X sa e t) (hs : DGs X sa es ts) : DGs X sa (e :: es) (t :: ts) := by
  refine ⟨(L2.pgs_cons h.pg hs.pg (by rw [assignEach_ok h.ok]; rfl)).wk fun vs σ H Q ⟨g, st, ds, st', R, r, e, k⟩ => ?_, by rw [assignEach_ok h.ok, List.length_cons, hs.len, List.length_cons], ?_⟩
  · cases r with
    | nil => simp only [bindTs] at e; cases e
    | cons r1 r2 =>
      simp only [bindTs, Option.bind_eq_some_iff] at e
      obtain ⟨st1, e1, e2⟩ := e
      refine ⟨_, _, rfl, g, st, _, st1, R, r1, e1, fun σ1 R1 S1 => ⟨g, st1, _, st', R1, r2, e2, fun σ2 R2 S2 => k σ2 R2 ⟨S2.1.trans S1.1, fun i hi => ?_⟩⟩⟩
      have h1 : i ∉ tgSlots t := fun q => hi (by simp only [tgsSlots]; exact List.mem_append_left _ q)
      have h2 : i ∉ tgsSlots ts := fun q => hi (by simp only [tgsSlots]; exact List.mem_append_right _ q)
      exact (S2.2 i h2).trans (S1.2 i h1)
  · rw [assignEach_ok h.ok, List.findIdx?_cons, hs.st]
    rfl
theorem dg_tup (hc : X.calm = true) {es : List Expr} {ts : List Tg} {k : Nat} {pos : Pos} (h : DGs X sa es ts) : DG X sa (.Tuple es k pos) (.tup ts) := by
  refine ⟨(L2.pg_tup hc h.pg rfl h.st).wk fun v σ H Q ⟨g, st, d, st', R, r, e, k⟩ => ?_, rfl⟩
  simp only [bindT] at e
  split at e
  · cases r with
    | tup h1 h2 =>
      refine ⟨_, _, rfl, SqT.of (R.sub.at h1), ?_, g, st, _, st', R, h2, e, fun σ' R' S' => k σ' R' (by simpa only [tgSlots] using S')⟩
      rw [h.len, h2.len]
      have : ∀ (ts : List Tg) (ds : List D) (st st' : St), bindTs ts ds st = some st' → ds.length = ts.length := by
        intro ts
        induction ts with
        | nil => intro ds st st' e; cases ds <;> simp only [bindTs] at e <;> first | rfl | cases e
        | cons t ts ih =>
          intro ds st st' e
          cases ds with
          | nil => simp only [bindTs] at e; cases e
          | cons d ds =>
            simp only [bindTs, Option.bind_eq_some_iff] at e
            obtain ⟨st1, _, e2⟩ := e
            exact congrArg (· + 1) (ih ds st1 st' e2)
      exact this _ _ _ _ e
  · cases e
end
end Pf

set_option maxRecDepth 100000
/-! Pf8c: list comprehensions. -/
namespace Pf
open PySem PySem.Spec PyProof.Rows
open L2 (V Hp HO upd upd_same upd_ne Same SqL SqT Dp DpAll Key Vals Cx Inv OpR R2 VK PE PT PA PS PSs PI PG PGs PTs TE TT TA TS TI TG TGs It Itl Itt Itr Ite Itz RelV EP Vis Loc Gl Room Env0 CE CallR tCB TyOf TyX wipe BlkOk)
section
variable {X : Cx} {sa : SA}
theorem SR.upd {g : Gh} {st : St} {σ : L2.St} {H : Hp} {D : Addr} {o u : HO} (R : SR sa g st σ H) (h : H D = some u) (z : g.Z D = none) (w : g.w D = none) (n : NotSrc sa D) : SR sa g st σ (L2.upd H D o) := by
  refine ⟨R.sub.keep fun b q => ?_, fun b j q => ⟨(R.own b j q).1, ?_⟩, R.len, fun j => (R.slot j).mono (Same.refl _) fun b us q1 q2 => ⟨?_, q2⟩, ?_⟩
  · rw [upd_ne (fun e => q (by rw [e]; exact z))]
  · rw [upd_ne (fun e => by rw [e, w] at q; cases q)]
    exact (R.own b j q).2
  · rw [upd_ne (fun e => by rw [e, w] at q2; cases q2)]
    exact q1
  · refine R.src.map fun s0 c0 t hsa k => ?_
    obtain ⟨n1, n2⟩ := n s0 c0 hsa
    exact ⟨by rw [upd_ne (Ne.symm n1)]; exact k.d, by rw [upd_ne (Ne.symm n2)]; exact k.c, k.ne, k.zs, k.zc, k.ws, k.wc⟩
theorem Ext.upd {g g' : Gh} {H H' : Hp} {D : Addr} {o : HO} (E : Ext sa g H g' H') (h : H D = none) : Ext sa g H g' (L2.upd H' D o) := by
  refine ⟨E.z, fun a u q n s => ?_, fun a q => ?_⟩
  · obtain ⟨e1, e2, e3⟩ := E.keep a u q n s
    exact ⟨by rw [upd_ne (fun e => by rw [e, h] at q; cases q)]; exact e1, e2, e3⟩
  · by_cases e : a = D
    · rw [e, upd_same]; exact fun z => nomatch z
    · rw [upd_ne e]; exact E.there a q
theorem Ext.ne {g g' : Gh} {H H' : Hp} {D : Addr} (E : Ext sa g H g' H') (h : H' D = none) : H D = none := by
  cases q : H D with
  | none => rfl
  | some o => exact absurd h (E.there D (by rw [q]; exact fun z => nomatch z))
theorem get_oob {st : St} {i : Nat} (h : ¬ i < st.env.length) : st.get i = .un := by
  unfold St.get
  rw [List.getD_eq_getElem?_getD, List.getElem?_eq_none (by omega)]
  rfl
theorem get_unAt {st : St} {i : Nat} : (unAt st i).get i = .un := by
  unfold Pf.unAt
  by_cases h : i < st.env.length
  · exact get_put_same h
  · rw [put_ge h]; exact get_oob h
theorem get_hide : ∀ {own : List Nat} {st : St} {j : Nat}, j ∈ own ∨ st.get j = .un → (hide own st).get j = .un
  | [], st, j, h => by
    rcases h with h | h
    · simp at h
    · exact h
  | i :: r, st, j, h => by
    show (hide r (unAt st i)).get j = .un
    apply get_hide
    by_cases e : j = i
    · subst e; exact .inr get_unAt
    · rcases h with h | h
      · exact .inl ((List.mem_cons.mp h).resolve_left e)
      · exact .inr (by unfold Pf.unAt; rw [get_put_ne e]; exact h)
theorem get_back : ∀ {own : List Nat} {s1 st : St} {j : Nat}, st.env.length = s1.env.length → (back own s1 st).get j = if j ∈ own then s1.get j else st.get j
  | [], s1, st, j, _ => by simp [back]
  | i :: r, s1, st, j, hl => by
    show (back r s1 (st.put i (s1.get i))).get j = _
    rw [get_back (by rw [put_len]; exact hl)]
    by_cases e : j = i
    · subst e
      have : (st.put j (s1.get j)).get j = s1.get j := by
        by_cases h : j < st.env.length
        · exact get_put_same h
        · rw [put_ge h, get_oob h, get_oob (by rw [← hl]; exact h)]
      simp [this]
    · rw [get_put_ne e]
      simp [e]
theorem back_len : ∀ {own : List Nat} {s1 st : St}, (back own s1 st).env.length = st.env.length
  | [], _, _ => rfl
  | i :: r, s1, st => by
    show (back r s1 (st.put i (s1.get i))).env.length = _
    rw [back_len, put_len]
theorem back_src : ∀ {own : List Nat} {s1 st : St}, (back own s1 st).src = st.src
  | [], _, _ => rfl
  | i :: r, s1, st => by
    show (back r s1 (st.put i (s1.get i))).src = _
    rw [back_src]
    rfl
def notL (s : Sl) : Prop := (∀ xs, s ≠ .lst xs) ∧ ∀ T kvs, s ≠ .dct T kvs
theorem frzS_notL {s : Sl} : notL (frzS s) := by
  refine ⟨fun xs => ?_, fun T kvs => ?_⟩ <;> cases s <;> exact fun z => nomatch z
theorem notL_frzAt {st : St} {i j : Nat} (h : notL (st.get j)) : notL ((frzAt st i).get j) := by
  unfold frzAt
  by_cases e : j = i
  · subst e
    by_cases q : j < st.env.length
    · rw [get_put_same q]; exact frzS_notL
    · rw [put_ge q]; exact h
  · rw [get_put_ne e]; exact h
theorem notL_at {st : St} {i : Nat} : notL ((frzAt st i).get i) := by
  unfold frzAt
  by_cases q : i < st.env.length
  · rw [get_put_same q]; exact frzS_notL
  · rw [put_ge q, get_oob q]; exact ⟨(fun _ z => nomatch z), (fun _ _ z => nomatch z)⟩
theorem notL_frzAll : ∀ {own : List Nat} {st : St} {j : Nat}, j ∈ own ∨ notL (st.get j) → notL ((frzAll own st).get j)
  | [], st, j, h => by
    rcases h with h | h
    · simp at h
    · exact h
  | i :: r, st, j, h => by
    show notL ((frzAll r (frzAt st i)).get j)
    apply notL_frzAll
    by_cases e : j = i
    · subst e; exact .inr notL_at
    · rcases h with h | h
      · exact .inl ((List.mem_cons.mp h).resolve_left e)
      · exact .inr (notL_frzAt h)
theorem SR.frzAt {g : Gh} {st : St} {σ : L2.St} {H : Hp} (R : SR sa g st σ H) (i : Nat) : ∃ g', SR sa g' (frzAt st i) σ H ∧ Ext sa g H g' H := by
  unfold Pf.frzAt
  cases q : st.get i with
  | lst xs =>
    obtain ⟨g', v, R', E', _⟩ := R.freeze q
    exact ⟨g', R', E'⟩
  | dct T kvs =>
    obtain ⟨g', v, R', E', _⟩ := R.freezeD q
    exact ⟨g', R', E'⟩
  | un => exact ⟨g, R.tell fun _ => trivial, .refl⟩
  | dat d =>
    refine ⟨g, R.tell fun _ => ?_, .refl⟩
    have := R.slot i
    rw [q] at this
    exact this
  | src =>
    refine ⟨g, R.tell fun _ => ?_, .refl⟩
    have := R.slot i
    rw [q] at this
    exact this
theorem SR.frzAll {g : Gh} {st : St} {σ : L2.St} {H : Hp} (R : SR sa g st σ H) : ∀ own : List Nat, ∃ g', SR sa g' (frzAll own st) σ H ∧ Ext sa g H g' H := by
  intro own
  induction own generalizing g st with
  | nil => exact ⟨g, R, .refl⟩
  | cons i r ih =>
    obtain ⟨g1, R1, E1⟩ := R.frzAt i
    obtain ⟨g2, R2, E2⟩ := ih R1
    exact ⟨g2, R2, E1.trans E2⟩
theorem wipe_in {σ : L2.St} {i : Nat} : ∀ {vs : List Nat}, i ∈ vs → (wipe σ vs)[i]? = if i < σ.length then some none else none
  | [], h => by simp at h
  | v :: vs, h => by
    show ((wipe σ vs).set v none)[i]? = _
    by_cases e : i = v
    · subst e
      rw [List.getElem?_set, L2.wipe_length]
      simp
    · rw [List.getElem?_set_ne (Ne.symm e)]
      exact wipe_in ((List.mem_cons.mp h).resolve_left e)
theorem wipe_eq {σ σ2 : L2.St} {vs ts : List Nat} (S : SameOut ts (wipe σ vs) σ2) (h : ∀ i ∈ ts, i ∈ vs) : wipe σ2 vs = wipe σ vs := by
  have hl : σ2.length = σ.length := S.1.trans (L2.wipe_length _ _)
  apply List.ext_getElem?
  intro i
  by_cases hi : i ∈ vs
  · rw [wipe_in hi, wipe_in hi, hl]
  · rw [L2.wipe_out hi, S.2 i fun q => hi (h i q)]
/-- .. into the block -/
theorem SR.into {g : Gh} {st : St} {σ τ : L2.St} {H : Hp} {own : List Nat} (R : SR sa g st τ H) (h : wipe τ own = wipe σ own) : SR sa g (Pf.hide own st) (wipe σ own) H := by
  rw [← h]
  refine (R.hide own).weak (L2.wipe_length _ _) fun i hi => L2.wipe_out fun q => hi (get_hide (.inl q))
theorem SR.back {g g1 : Gh} {s1 s2 : St} {σ : L2.St} {H H1 : Hp} {own : List Nat} (R1 : SR sa g1 s1 σ H1) (hn : ∀ i ∈ own, notL (s1.get i)) (z : Same g1.Z g.Z) (R : SR sa g s2 (wipe σ own) H) : SR sa g (back own s1 s2) σ H := by
  have hl : s2.env.length = s1.env.length := by rw [R.len, R1.len, L2.wipe_length]
  refine ⟨R.sub, R.own, by rw [back_len, hl]; exact R1.len, fun j => ?_, by rw [back_src]; exact R.src⟩
  rw [get_back hl]
  by_cases hj : j ∈ own
  · rw [if_pos hj]
    have s := R1.slot j
    have n := hn j hj
    cases q : s1.get j with
    | un => trivial
    | lst xs => exact absurd q (n.1 xs)
    | dct T kvs => exact absurd q (n.2 T kvs)
    | dat d =>
      rw [q] at s
      obtain ⟨v, e, r⟩ := s
      exact ⟨v, e, dtMono z _ r⟩
    | src =>
      rw [q] at s
      exact s
  · rw [if_neg hj]
    have s := R.slot j
    rw [L2.wipe_out hj] at s
    exact s
/-! ### the tests -/
def tDC (sa : SA) (ev : St → Option (Bool × St)) : TT := fun σ H Q => ∃ g st b st', SR sa g st σ H ∧ ev st = some (b, st') ∧ ∀ g' H', SR sa g' st' σ H' → Ext sa g H g' H' → Q b H'
theorem _root_.L2.PTs.wk {X : Cx} {e : List Expr} {t t' : TT} (h : PTs X e t) (f : ∀ σ H Q, t' σ H Q → t σ H Q) : PTs X e t' := ⟨fun pins s σ H Q I q => h.run pins s σ H Q I (f _ _ _ q)⟩
variable (Γ : Nat → Fn)
theorem evalC_nop {st st' : St} {b : Bool} (e : evalC Γ .nop st = some (b, st')) : b = true ∧ st' = st := by
  simp only [evalC, Option.some.injEq, Prod.mk.injEq] at e
  exact ⟨e.1.symm, e.2.symm⟩
theorem evalC_some {c : Ex} {st st' : St} {b : Bool} (e : evalC Γ c st = some (b, st')) (hn : c ≠ .nop) : eval Γ c st = some (.dat (.bool b), st') := by
  unfold evalC at e
  split at e
  · exact absurd rfl hn
  · exact asBool_some e
theorem dc_nil : PTs X [] (tDC sa (evalC Γ .nop)) := L2.pts_nil.wk fun σ H Q ⟨g, st, b, st', R, e, k⟩ => by
  obtain ⟨rfl, rfl⟩ := evalC_nop Γ e
  exact k g H R .refl
theorem dc_one {e : Expr} {c : Ex} (h : DE X sa e (eval Γ c)) (hn : c ≠ .nop) : PTs X [e] (tDC sa (evalC Γ c)) := (L2.pts_one h.pt).wk fun σ H Q ⟨g, st, b, st', R, e, k⟩ => ⟨g, st, b, st', R, evalC_some Γ e hn, k⟩

/-! ### the comprehension -/
def compF (own : List Nat) (tg : Tg) (c e : Ex) : D → St → Option (Option D × St) := fun d s => (bindT tg d s).bind fun s => (evalC Γ c s).bind fun b => if b.1 then (eval Γ e b.2).bind fun r => (frz r.2 r.1).map fun x => (some x.1, hide own x.2) else some (none, hide own b.2)
theorem ev_comp {own : List Nat} {tg : Tg} {it : Itx} {c e : Ex} {st st' : St} {r : Rv} (h : eval Γ (.comp own tg it c e) st = some (r, st')) :
    ∃ ds p2 out s2, evalI Γ it st = some (ds, p2) ∧ compRun (compF Γ own tg c e) ds (hide own (frzAll own p2)) = some (out, s2) ∧ out.length ≤ sizeLine ∧ r = .lst out ∧ st' = back own (frzAll own p2) s2 := by
  simp only [eval, Option.bind_eq_some_iff] at h
  obtain ⟨⟨ds, p2⟩, e1, ⟨out, s2⟩, e2, e3⟩ := h
  split at e3
  · rename_i hl
    cases e3
    exact ⟨ds, p2, out, s2, e1, e2, hl, rfl, rfl⟩
  · cases e3
/-- where the new list stands through the turns -/
structure Acc (sa : SA) (g1 : Gh) (H1 : Hp) (g : Gh) (H : Hp) (D : Addr) (acc : List Pf.D) : Prop where
  E : Ext sa g1 H1 g H
  ex : ∃ vs, H D = some (.lst vs) ∧ DtAll g.Z vs acc
  z : g.Z D = none
  w : g.w D = none
theorem Acc.ext {g1 g g' : Gh} {H1 H H' : Hp} {D : Addr} {acc : List Pf.D} (A : Acc sa g1 H1 g H D acc) (ns : NotSrc sa D) (E : Ext sa g H g' H') : Acc sa g1 H1 g' H' D acc := by
  obtain ⟨vs, h1, h2⟩ := A.ex
  obtain ⟨e1, e2, e3⟩ := E.keep D _ h1 A.w ns
  exact ⟨A.E.trans E, ⟨vs, e1, dtAllMono E.z _ h2⟩, e3 ntupL A.z, e2⟩
/-- what is left of a comprehension's reading when its iterable stands -/
def LcRest (sa : SA) (own : List Nat) (tg : Tg) (c e : Ex) (σ : L2.St) (H1 : Hp) (J : It) (Q : VK) : Prop := ∀ D, H1 D = none → ∃ W : Nat → Nat → Hp → Prop, (∃ m, W 0 m (L2.upd H1 D (.lst []))) ∧ ∀ i m H, W i m H →
  (J.stop i H ∧ Q (.ref D) H) ∨ (J.go i H ∧ ∃ Nx : Hp → Prop, (∀ H', Nx H' → ∃ m', m' < m ∧ W (i + 1) m' H') ∧ ∀ x H', J.yld i H x H' → gD sa tg x (wipe σ own) H' fun σ2 H2 => wipe σ2 own = wipe σ own ∧ tDC sa (evalC Γ c) σ2 H2 fun b H3 =>
    if b = true then tD sa (eval Γ e) σ2 H3 fun y H4 => ∃ acc, H4 D = some (.lst acc) ∧ acc.length < sizeLine ∧ Nx (L2.upd H4 D (.lst (acc ++ [y]))) else Nx H3)
theorem lc_rest {own : List Nat} {tg : Tg} {c e : Ex} (htg : ∀ i ∈ tgSlots tg, i ∈ own) {σ : L2.St} {H1 : Hp} {Q : VK} {J : It} {L : List (Addr × HO)} {g0 : Gh} {p2 s2 : St} {ds out : List D}
    (R0 : SR sa g0 p2 σ H1) (HL : Held sa L g0 H1) (Y : Yields J L g0.Z ds) (e2 : compRun (compF Γ own tg c e) ds (hide own (frzAll own p2)) = some (out, s2)) (hlen : out.length ≤ sizeLine)
    (k : ∀ v g' H', SR sa g' (back own (frzAll own p2) s2) σ H' → Ext sa g0 H1 g' H' → RvOk sa H1 g' σ H' v (.lst out) → Q v H') : LcRest Γ sa own tg c e σ H1 J Q := by
  obtain ⟨g1, R1, E1⟩ := R0.frzAll own
  have hnl : ∀ i ∈ own, notL ((frzAll own p2).get i) := fun i hi => notL_frzAll (.inl hi)
  generalize frzAll own p2 = s1 at *
  intro D hD
  obtain ⟨R1', E1', zD, wD, ns⟩ := R1.new (o := .lst []) hD
  let W : Nat → Nat → Hp → Prop := fun i m H' => m = ds.length - i ∧ i ≤ ds.length ∧ ∃ g' st' acc rest, SR sa g' st' (wipe σ own) H' ∧ Acc sa g1 H1 g' H' D acc ∧ compRun (compF Γ own tg c e) (ds.drop i) st' = some (rest, s2) ∧ acc ++ rest = out
  refine ⟨W, ⟨ds.length, rfl, Nat.zero_le _, g1, hide own s1, [], out, R1'.into rfl, ⟨E1', ⟨[], upd_same, .nil⟩, zD, wD⟩, e2, rfl⟩, ?_⟩
  rintro i m H' ⟨rfl, hi, g', st', acc, rest, R', A', run, hout⟩
  by_cases hlt : i < ds.length
  · have hd : ds.drop i = ds[i] :: ds.drop (i + 1) := List.drop_eq_getElem_cons hlt
    rw [hd] at run
    simp only [compRun, Option.bind_eq_some_iff, Option.some.injEq] at run
    obtain ⟨⟨ox, p⟩, f1, ⟨q1, q2⟩, f2, f3⟩ := run
    cases f3
    refine .inr ⟨Y.go i H' ((E1.z.trans A'.E.z).subT R'.sub) ((HL.ext E1).ext A'.E).hs hlt, fun H'' => W (i + 1) (ds.length - (i + 1)) H'', fun H'' w => ⟨_, by omega, w⟩, fun v H2 y => ?_⟩
    obtain ⟨g2, d, hd', R2, E2, O2⟩ := R'.turn Y ((HL.ext E1).ext A'.E).hs (E1.z.trans A'.E.z) hlt y
    rw [List.getElem?_eq_getElem hlt] at hd'
    cases hd'
    have A2 := A'.ext ns E2
    simp only [compF, Option.bind_eq_some_iff] at f1
    obtain ⟨sb, f4, ⟨b, s3⟩, f5, f6⟩ := f1
    refine ⟨g2, st', _, sb, R2, O2, f4, fun σ2 Rb S2 => ⟨wipe_eq S2 htg, g2, sb, b, s3, Rb, f5, fun g3 H3 R3 E3 => ?_⟩⟩
    have A3 := A2.ext ns E3
    have hw := wipe_eq S2 htg
    cases b with
    | false =>
      simp only [Bool.false_eq_true, if_false, Option.some.injEq, Prod.mk.injEq] at f6 ⊢
      obtain ⟨rfl, rfl⟩ := f6
      exact ⟨rfl, hlt, g3, _, acc, q1, R3.into hw, A3, f2, hout⟩
    | true =>
      simp only [if_true, Option.bind_eq_some_iff, Option.map_eq_some_iff] at f6 ⊢
      obtain ⟨⟨r4, s4⟩, f7, ⟨x, s5⟩, f8, f9⟩ := f6
      cases f9
      refine ⟨g3, s3, r4, s4, R3, f7, fun u g4 H4 R4 E4 O4 => ?_⟩
      obtain ⟨g5, R5, E5, z5, O5⟩ := frz_ok R4 E4 O4 f8
      have A5 := A3.ext ns E5
      obtain ⟨vs, h1, h2⟩ := A5.ex
      refine ⟨vs, h1, ?_, rfl, hlt, g5, _, acc ++ [x], q1, (R5.upd h1 A5.z A5.w ns).into hw, ⟨A5.E.upd hD, ⟨_, upd_same, h2.append (.cons O5 .nil)⟩, A5.z, A5.w⟩, f2, by simpa using hout⟩
      have := congrArg List.length hout
      simp at this
      rw [h2.len]
      omega
  · have e : i = ds.length := by omega
    subst e
    rw [List.drop_length] at run
    simp only [compRun, Option.some.injEq, Prod.mk.injEq] at run
    obtain ⟨rfl, rfl⟩ := run
    rw [List.append_nil] at hout
    subst hout
    refine .inl ⟨Y.stop H' ((E1.z.trans A'.E.z).subT R'.sub) ((HL.ext E1).ext A'.E).hs, k (.ref D) g' H' (R1.back hnl A'.E.z R') (E1.trans A'.E) ?_⟩
    obtain ⟨vs, h1, h2⟩ := A'.ex
    exact ⟨D, vs, rfl, E1.ne hD, h1, h2, A'.z, A'.w, ns⟩
theorem rd_lc {own : List Nat} {tg : Tg} {it : Itx} {c e : Ex} (htg : ∀ i ∈ tgSlots tg, i ∈ own) {σ : L2.St} {H : Hp} {Q : VK} (h : tD sa (eval Γ (.comp own tg it c e)) σ H Q) :
    L2.tLc (tDI sa (evalI Γ it)) (gD sa tg) (tDC sa (evalC Γ c)) (tD sa (eval Γ e)) own σ H Q := by
  obtain ⟨g, st, r, st', R, ev, k⟩ := h
  obtain ⟨ds, p2, out, s2, e1, e2, hlen, rfl, rfl⟩ := ev_comp Γ ev
  exact ⟨g, st, ds, p2, R, e1, fun J L g0 H1 R0 E0 HL Y => lc_rest Γ htg R0 HL Y e2 hlen fun v g' H' R' E' O' => k v g' H' R' (E0.trans E') (O'.weak E0.there)⟩
/-- the block's context -/
abbrev blkX (X : Cx) (scope : Scope) (s : Shared) (H : Hp) (C : Addr) (cl : List (Str × Addr)) (fp : List Addr) : Cx := X.blk s H scope (compEnvC scope cl C X.env) fp
structure DL (X : Cx) (sa : SA) (tg : Expr) (it : Expr) (ifs : List Expr) (elt : Expr) (scope : Scope) (own : List (Str × Nat)) (t : Tg) (i : Itx) (c e : Ex) : Prop where
  it : DI X sa tg it (evalI Γ i)
  ok : BlkOk X.N X.env.scope scope own
  tg : ∀ (s : Shared) (H : Hp) (C : Addr) (cl : List (Str × Addr)) (fp : List Addr), DG (blkX X scope s H C cl fp) sa tg t
  ts : ∀ (s : Shared) (H : Hp) (C : Addr) (cl : List (Str × Addr)) (fp : List Addr), PTs (blkX X scope s H C cl fp) ifs (tDC sa (evalC Γ c))
  el : ∀ (s : Shared) (H : Hp) (C : Addr) (cl : List (Str × Addr)) (fp : List Addr), DE (blkX X scope s H C cl fp) sa elt (eval Γ e)
  sl : ∀ i ∈ tgSlots t, i ∈ own.map (·.2)
theorem de_comp (hc : X.calm = true) (hN : X.N.Nodup) {tg it elt : Expr} {ifs : List Expr} {scope : Scope} {own : List (Str × Nat)} {t : Tg} {i : Itx} {c e : Ex} {pos : Pos} (h : DL (X := X) (sa := sa) Γ tg it ifs elt scope own t i c e) :
    DE X sa (.ListComp elt [⟨tg, it, ifs, 0⟩] scope pos) (eval Γ (.comp (own.map (·.2)) t i c e)) :=
  DE.val ((L2.pe_lc hc hN h.it.pi h.ok (fun s H C cl fp => (h.tg s H C cl fp).pg) h.ts (fun s H C cl fp => (h.el s H C cl fp).pe) h.it.fold).wk fun σ H Q q => rd_lc Γ h.sl q) rfl
end
end Pf

set_option maxRecDepth 100000
/-! Pf9: statements. -/
namespace Pf
open PySem PySem.Spec PyProof.Rows
open L2 (V Hp HO upd upd_same upd_ne Same SqL SqT Dp DpAll Key Vals Cx Inv OpR R2 VK PE PT PA PS PSs PI PG PGs PTs PSet PGet PIp TE TT TA TS TI TG TGs It Itl Itt Itr Ite Itz RelV EP Vis Loc Gl Room Env0 CE CallR tCB TyOf TyX wipe BlkOk Ends)
/-- what a def's result is; H0: the heap ahead -/
def RtOk (sa : SA) (H0 : Hp) (g : Gh) (H : Hp) (v : V) : Rv → Prop
  | .dat d => Dt g.Z v d
  | .lst xs => ∃ p vs, v = .ref p ∧ H p = some (.lst vs) ∧ DtAll g.Z vs xs ∧ g.Z p = none ∧ NotSrc sa p ∧ (g.w p = none → H0 p = none)
  | .dct T kvs => ∃ p o, v = .ref p ∧ H p = some o ∧ DkOk g.Z T o kvs ∧ g.Z p = none ∧ NotSrc sa p ∧ (g.w p = none → H0 p = none)
  | _ => False
def EndOk (sa : SA) (g : Gh) (H : Hp) (D : Ends) : Out → Prop
  | .nx st' => ∀ σ' g' H', SR sa g' st' σ' H' → Ext sa g H g' H' → D.nx σ' H'
  | .bk st' => ∀ σ' g' H', SR sa g' st' σ' H' → Ext sa g H g' H' → D.bk σ' H'
  | .ct st' => ∀ σ' g' H', SR sa g' st' σ' H' → Ext sa g H g' H' → D.ct σ' H'
  | .rt r st' => ∀ v σ' g' H', SR sa g' st' σ' H' → Ext sa g H g' H' → RtOk sa H g' H' v r → D.rt v H'
def tDS (sa : SA) (ev : St → Option Out) : TS := fun D σ H => ∃ g st o, SR sa g st σ H ∧ ev st = some o ∧ EndOk sa g H D o
section
variable {X : Cx} {sa : SA}
theorem RtOk.weak {H0 H1 : Hp} {g : Gh} {H : Hp} {v : V} {r : Rv} (h : RtOk sa H1 g H v r) (e : ∀ a, H0 a ≠ none → H1 a ≠ none) : RtOk sa H0 g H v r := by
  cases r with
  | dat d => exact h
  | view i => exact h
  | src => exact h
  | lst xs =>
    obtain ⟨p, vs, h1, h2, h3, h4, h5, h6⟩ := h
    refine ⟨p, vs, h1, h2, h3, h4, h5, fun w => ?_⟩
    cases q : H0 p with
    | none => rfl
    | some o => exact absurd (h6 w) (e p (by rw [q]; exact fun z => nomatch z))
  | dct T kvs =>
    obtain ⟨p, vs, h1, h2, h3, h4, h5, h6⟩ := h
    refine ⟨p, vs, h1, h2, h3, h4, h5, fun w => ?_⟩
    cases q : H0 p with
    | none => rfl
    | some o => exact absurd (h6 w) (e p (by rw [q]; exact fun z => nomatch z))
theorem EndOk.weak {g g1 : Gh} {H H1 : Hp} {D : Ends} {o : Out} (E : Ext sa g H g1 H1) (h : EndOk sa g H D o) : EndOk sa g1 H1 D o := by
  cases o with
  | nx st => exact fun σ' g' H' R' E' => h σ' g' H' R' (E.trans E')
  | bk st => exact fun σ' g' H' R' E' => h σ' g' H' R' (E.trans E')
  | ct st => exact fun σ' g' H' R' E' => h σ' g' H' R' (E.trans E')
  | rt r st => exact fun v σ' g' H' R' E' O => h v σ' g' H' R' (E.trans E') (O.weak E.there)
theorem _root_.L2.PS.wk {X : Cx} {e : Stmt} {t t' : TS} (h : PS X e t) (f : ∀ D σ H, t' D σ H → t D σ H) : PS X e t' := ⟨fun pins s σ H D I q => h.run pins s σ H D I (f _ _ _ q)⟩
theorem _root_.L2.PSs.wk {X : Cx} {e : List Stmt} {t t' : TS} (h : PSs X e t) (f : ∀ D σ H, t' D σ H → t D σ H) : PSs X e t' := ⟨fun pins s σ H D I q => h.run pins s σ H D I (f _ _ _ q)⟩
variable (Γ : Nat → Fn)
abbrev DS (X : Cx) (sa : SA) (s : Stmt) (ev : St → Option Out) : Prop := PS X s (tDS sa ev)
abbrev DSs (X : Cx) (sa : SA) (ss : List Stmt) (ev : St → Option Out) : Prop := PSs X ss (tDS sa ev)
theorem ds_nil : DSs X sa [] (execs Γ .nil) := L2.pss_nil.wk fun D σ H ⟨g, st, o, R, e, k⟩ => by
  simp only [execs] at e
  cases e
  exact k σ g H R .refl
theorem ds_cons {s : Stmt} {ss : List Stmt} {c : Sm} {cs : Sms} (h : DS X sa s (exec Γ c)) (hs : DSs X sa ss (execs Γ cs)) : DSs X sa (s :: ss) (execs Γ (.cons c cs)) := (L2.pss_cons h hs).wk fun D σ H ⟨g, st, o, R, e, k⟩ => by
  simp only [execs, Option.bind_eq_some_iff] at e
  obtain ⟨o1, e1, e2⟩ := e
  refine ⟨g, st, o1, R, e1, ?_⟩
  cases o1 with
  | nx st1 => exact fun σ1 g1 H1 R1 E1 => ⟨g1, st1, o, R1, e2, k.weak E1⟩
  | bk st1 => cases e2; exact k
  | ct st1 => cases e2; exact k
  | rt r st1 => cases e2; exact k
theorem ds_pass {pos : Pos} : DS X sa (.Pass pos) (exec Γ .pass) := L2.ps_pass.wk fun D σ H ⟨g, st, o, R, e, k⟩ => by
  simp only [exec] at e
  cases e
  exact k σ g H R .refl
theorem ds_doc {x j pos pos'} : DS X sa (.Expr (.Constant (.str x) j pos) pos') (exec Γ .pass) := L2.ps_doc.wk fun D σ H ⟨g, st, o, R, e, k⟩ => by
  simp only [exec] at e
  cases e
  exact k σ g H R .refl
theorem ds_break {pos : Pos} : DS X sa (.Break pos) (exec Γ .brk) := L2.ps_break.wk fun D σ H ⟨g, st, o, R, e, k⟩ => by
  simp only [exec] at e
  cases e
  exact k σ g H R .refl
theorem ds_cont {pos : Pos} : DS X sa (.Continue pos) (exec Γ .cnt) := L2.ps_continue.wk fun D σ H ⟨g, st, o, R, e, k⟩ => by
  simp only [exec] at e
  cases e
  exact k σ g H R .refl
theorem ds_ite {c : Expr} {a b : List Stmt} {cc : Ex} {ca cb : Sms} {pos : Pos} (hc : DE X sa c (eval Γ cc)) (ha : DSs X sa a (execs Γ ca)) (hb : DSs X sa b (execs Γ cb)) : DS X sa (.If c a b pos) (exec Γ (.ite cc ca cb)) := (L2.ps_if hc.pt ha hb).wk fun D σ H ⟨g, st, o, R, e, k⟩ => by
  simp only [exec, Option.bind_eq_some_iff] at e
  obtain ⟨⟨b, st1⟩, e1, e2⟩ := e
  refine ⟨g, st, b, st1, R, asBool_some e1, fun g1 H1 R1 E1 => ?_⟩
  cases b with
  | true =>
    simp only [if_true] at e2 ⊢
    exact ⟨g1, st1, o, R1, e2, k.weak E1⟩
  | false =>
    simp only [Bool.false_eq_true, if_false] at e2 ⊢
    exact ⟨g1, st1, o, R1, e2, k.weak E1⟩
theorem ds_ret {e : Expr} {c : Ex} {pos : Pos} (h : DE X sa e (eval Γ c)) : DS X sa (.Return (some e) pos) (exec Γ (.ret c)) := (L2.ps_ret h.pe).wk fun D σ H ⟨g, st, o, R, e, k⟩ => by
  simp only [exec, Option.bind_eq_some_iff] at e
  obtain ⟨⟨r, st1⟩, e1, e2⟩ := e
  refine ⟨g, st, r, st1, R, e1, fun v g1 H1 R1 E1 O1 => ?_⟩
  cases r with
  | dat d => cases e2; exact k v σ g1 H1 R1 E1 O1
  | src => cases e2
  | lst xs =>
    cases e2
    obtain ⟨p, vs, h1, h2, h3, h4, h5, h6, h7⟩ := O1
    exact k v σ g1 H1 R1 E1 ⟨p, vs, h1, h3, h4, h5, h7, fun _ => h2⟩
  | dct T kvs =>
    cases e2
    obtain ⟨p, vs, h1, h2, h3, h4, h5, h6, h7⟩ := O1
    exact k v σ g1 H1 R1 E1 ⟨p, vs, h1, h3, h4, h5, h7, fun _ => h2⟩
  | view j =>
    simp only [res, Option.bind_eq_some_iff] at e2
    obtain ⟨d, e3, e4⟩ := e2
    have O1 : σ[j]? = some (some v) := O1
    have s := R1.slot j
    cases q : st1.get j with
    | un => rw [q] at e3; cases e3
    | src => rw [q] at e3; cases e3
    | dat d' =>
      rw [q] at e3 e4 s
      cases e3
      cases e4
      obtain ⟨v', e5, r5⟩ := s
      rw [O1] at e5
      cases e5
      exact k v σ g1 H1 R1 E1 r5
    | lst xs =>
      rw [q] at e3 e4 s
      cases e3
      cases e4
      obtain ⟨a, vs, e5, h1, h2, h3, h4⟩ := s
      rw [O1] at e5
      cases e5
      exact k _ σ g1 H1 (R1.unAt j) E1 ⟨a, vs, rfl, h1, h2, (R1.own a j h3).1, h4, fun w => by rw [h3] at w; cases w⟩
    | dct T kvs =>
      rw [q] at e3 e4 s
      cases e3
      cases e4
      obtain ⟨a, vs, e5, h1, h2, h3, h4⟩ := s
      rw [O1] at e5
      cases e5
      exact k _ σ g1 H1 (R1.unAt j) E1 ⟨a, vs, rfl, h1, h2, (R1.own a j h3).1, h4, fun w => by rw [h3] at w; cases w⟩
theorem ds_retN {pos : Pos} : DS X sa (.Return none pos) (exec Γ (.ret (.cst .none))) := L2.ps_retN.wk fun D σ H ⟨g, st, o, R, e, k⟩ => by
  simp only [exec, eval, Option.bind_some] at e
  cases e
  exact k .non σ g H R .refl .non
theorem ds_expr {e : Expr} {c : Ex} {pos : Pos} (h : DE X sa e (eval Γ c)) (hs : swapsWith e none pos.line X.env = pure false) : DS X sa (.Expr e pos) (exec Γ (.expr c)) := (L2.ps_expr h.pe hs).wk fun D σ H ⟨g, st, o, R, e, k⟩ => by
  simp only [exec, Option.map_eq_some_iff] at e
  obtain ⟨⟨r, st1⟩, e1, e2⟩ := e
  cases e2
  exact ⟨g, st, r, st1, R, e1, fun v g1 H1 R1 E1 O1 => k σ g1 H1 R1 E1⟩
/-! ### stores -/
theorem Ext.own {g0 g : Gh} {H0 H : Hp} {p : Addr} {i : Nat} (E : Ext sa g0 H0 g H) (h : H0 p = none) : Ext sa g0 H0 ⟨g.Z, fun b => if b = p then some i else g.w b⟩ H := by
  refine ⟨E.z, fun a o q n s => ?_, E.there⟩
  obtain ⟨e1, e2, e3⟩ := E.keep a o q n s
  refine ⟨e1, ?_, e3⟩
  show (if a = p then some i else g.w a) = none
  rw [if_neg (fun e => by rw [e, h] at q; cases q)]
  exact e2
theorem keep_ok {g0 g : Gh} {H0 H : Hp} {st st' : St} {σ : L2.St} {v : V} {r : Rv} {i : Nat} (R : SR sa g st σ H) (E : Ext sa g0 H0 g H) (O : RvOk sa H0 g σ H v r) (e : keep st i r = some st') :
    ∃ g', SR sa g' st' (σ.set i (some v)) H ∧ Ext sa g0 H0 g' H := by
  cases r with
  | dat d =>
    simp only [keep] at e
    cases e
    exact ⟨g, R.bind O, E⟩
  | src => cases e
  | lst xs =>
    simp only [keep] at e
    cases e
    obtain ⟨p, vs, rfl, h0, h1, h2, h3, h4, h5⟩ := O
    exact ⟨_, R.adopt h1 h2 h3 h4 h5, E.own h0⟩
  | dct T kvs =>
    simp only [keep] at e
    cases e
    obtain ⟨p, vs, rfl, h0, h1, h2, h3, h4, h5⟩ := O
    exact ⟨_, R.adoptD h1 h2 h3 h4 h5, E.own h0⟩
  | view j =>
    simp only [keep, Option.map_eq_some_iff] at e
    obtain ⟨⟨d, st1⟩, e1, e2⟩ := e
    cases e2
    obtain ⟨g1, R1, E1, z1, O1⟩ := frz_ok R E O e1
    exact ⟨g1, R1.bind O1, E1⟩
theorem rd_set {i : Nat} {c : Ex} {D : Ends} {σ : L2.St} {H : Hp} (h : tDS sa (exec Γ (.set i c)) D σ H) : L2.tAsg (tD sa (eval Γ c)) (L2.gName i) D σ H := by
  obtain ⟨g, st, o, R, e, k⟩ := h
  simp only [exec, Option.bind_eq_some_iff, Option.map_eq_some_iff] at e
  obtain ⟨⟨r, st1⟩, e1, st2, e2, e3⟩ := e
  cases e3
  refine ⟨g, st, r, st1, R, e1, fun v g1 H1 R1 E1 O1 => ?_⟩
  obtain ⟨g2, R2, E2⟩ := keep_ok R1 E1 O1 e2
  exact k _ g2 H1 R2 E2
theorem ds_set (hN : X.N.Nodup) {i : Nat} {x : Str} {e : Expr} {c : Ex} {p pos : Pos} (hi : X.N[i]? = some x) (hx : Loc X.env.scope x) (hf : X.fn x = true ∨ X.env.scope.names.lookup x = some .local) (h : DE X sa e (eval Γ c))
    (hs : swapsWith e (some (.Name x p)) pos.line X.env = pure false) : DS X sa (.Assign [.Name x p] e pos) (exec Γ (.set i c)) :=
  (L2.ps_set hN hi hx h.pe hs hf).wk fun _ _ _ q => rd_set Γ q
theorem ds_setLc (hc : X.calm = true) (hN : X.N.Nodup) {j : Nat} {y : Str} {tg it elt : Expr} {ifs : List Expr} {scope : Scope} {own : List (Str × Nat)} {t : Tg} {i : Itx} {c e : Ex} {p pos spos : Pos} (hj : X.N[j]? = some y) (hy : X.env.scope.names.lookup y = some .local)
    (hs : swapsWith (.ListComp elt [⟨tg, it, ifs, 0⟩] scope pos) (some (.Name y p)) spos.line X.env = pure true) (h : DL (X := X) (sa := sa) Γ tg it ifs elt scope own t i c e) :
    DS X sa (.Assign [.Name y p] (.ListComp elt [⟨tg, it, ifs, 0⟩] scope pos) spos) (exec Γ (.set j (.comp (own.map (·.2)) t i c e))) :=
  (L2.ps_setLc hc hN hj hy hs h.it.pi h.ok (fun s H C cl fp => (h.tg s H C cl fp).pg) h.ts (fun s H C cl fp => (h.el s H C cl fp).pe) h.it.fold).wk fun D σ H q => by
    obtain ⟨g, st, o, R, e, k⟩ := q
    simp only [exec, Option.bind_eq_some_iff, Option.map_eq_some_iff] at e
    obtain ⟨⟨r, st1⟩, e1, st2, e2, e3⟩ := e
    cases e3
    refine rd_lc Γ h.sl ⟨g, st, r, st1, R, e1, fun v g1 H1 R1 E1 O1 => ?_⟩
    obtain ⟨g2, R2, E2⟩ := keep_ok R1 E1 O1 e2
    exact k _ g2 H1 R2 E2
theorem ds_asgT {tg e : Expr} {t : Tg} {c : Ex} {pos : Pos} (hg : DG X sa tg t) (h : DE X sa e (eval Γ c)) (hs : swapsWithSole [tg] e pos.line X.env = pure false) (hw : swappedStores [tg] e X.env = pure none) : DS X sa (.Assign [tg] e pos) (exec Γ (.asgT t c)) :=
  (L2.ps_asg h.pe hg.pg hs hw (by rw [assignEach_ok hg.ok]; rfl)).wk fun D σ H ⟨g, st, o, R, e, k⟩ => by
    simp only [exec, Option.bind_eq_some_iff, Option.map_eq_some_iff] at e
    obtain ⟨⟨r, st1⟩, e1, ⟨d, st2⟩, e2, st3, e3, e4⟩ := e
    cases e4
    refine ⟨g, st, r, st1, R, e1, fun v g1 H1 R1 E1 O1 => ?_⟩
    obtain ⟨g2, R2, E2, z2, O2⟩ := frz_ok R1 E1 O1 e2
    exact ⟨g2, st2, d, st3, R2, O2, e3, fun σ' R' S' => k σ' g2 H1 R' E2⟩
/-! ### a, b = x, y -/
inductive KAll (sa : SA) : Hp → Gh → Hp → List V → List Rv → Prop
  | nil {H0 g H} : KAll sa H0 g H [] []
  | dat {H0 g H v vs d rs} : Dt g.Z v d → KAll sa H0 g H vs rs → KAll sa H0 g H (v :: vs) (.dat d :: rs)
  | lst {H0 H1 g H p us vs xs rs} : H0 p = none → H p = some (.lst us) → DtAll g.Z us xs → g.Z p = none → g.w p = none → NotSrc sa p → (∀ a, H0 a ≠ none → H1 a ≠ none) → H1 p ≠ none → KAll sa H1 g H vs rs → KAll sa H0 g H (.ref p :: vs) (.lst xs :: rs)
  | dct {H0 H1 g H p o vs T kvs rs} : H0 p = none → H p = some o → DkOk g.Z T o kvs → g.Z p = none → g.w p = none → NotSrc sa p → (∀ a, H0 a ≠ none → H1 a ≠ none) → H1 p ≠ none → KAll sa H1 g H vs rs → KAll sa H0 g H (.ref p :: vs) (.dct T kvs :: rs)
theorem KAll.weak : ∀ {vs : List V} {rs : List Rv} {H0 H1 : Hp} {g : Gh} {H : Hp}, KAll sa H1 g H vs rs → (∀ a, H0 a ≠ none → H1 a ≠ none) → KAll sa H0 g H vs rs
  | _, _, _, _, _, _, .nil, _ => .nil
  | _, _, _, _, _, _, .dat h t, e => .dat h (t.weak e)
  | _, _, H0, _, _, _, .lst (p := p) h0 h1 h2 h3 h4 h5 m h6 t, e => by
    refine .lst ?_ h1 h2 h3 h4 h5 (fun a q => m a (e a q)) h6 t
    cases q : H0 p with
    | none => rfl
    | some o => exact absurd h0 (e p (by rw [q]; exact fun z => nomatch z))
  | _, _, H0, _, _, _, .dct (p := p) h0 h1 h2 h3 h4 h5 m h6 t, e => by
    refine .dct ?_ h1 h2 h3 h4 h5 (fun a q => m a (e a q)) h6 t
    cases q : H0 p with
    | none => rfl
    | some o => exact absurd h0 (e p (by rw [q]; exact fun z => nomatch z))
theorem KAll.own {q : Addr} {i : Nat} : ∀ {vs : List V} {rs : List Rv} {H0 : Hp} {g : Gh} {H : Hp}, KAll sa H0 g H vs rs → H0 q ≠ none → KAll sa H0 ⟨g.Z, fun b => if b = q then some i else g.w b⟩ H vs rs
  | _, _, _, _, _, .nil, _ => .nil
  | _, _, _, _, _, .dat h t, e => .dat h (t.own e)
  | _, _, H0, g, _, .lst (p := p) h0 h1 h2 h3 h4 h5 m h6 t, e => by
    refine .lst h0 h1 h2 h3 ?_ h5 m h6 (t.own (m q e))
    show (if p = q then some i else g.w p) = none
    rw [if_neg (fun z => by rw [z] at h0; exact e h0)]
    exact h4
  | _, _, H0, g, _, .dct (p := p) h0 h1 h2 h3 h4 h5 m h6 t, e => by
    refine .dct h0 h1 h2 h3 ?_ h5 m h6 (t.own (m q e))
    show (if p = q then some i else g.w p) = none
    rw [if_neg (fun z => by rw [z] at h0; exact e h0)]
    exact h4
def setAll : List Nat → List V → L2.St → L2.St
  | i :: is, v :: vs, σ => setAll is vs (σ.set i (some v))
  | _, _, σ => σ
theorem keeps_ok {g0 : Gh} {H0 H : Hp} : ∀ {is : List Nat} {rs : List Rv} {vs : List V} {g : Gh} {st st' : St} {σ : L2.St}, SR sa g st σ H → Ext sa g0 H0 g H → KAll sa H0 g H vs rs → keeps is rs st = some st' →
    ∃ g', SR sa g' st' (setAll is vs σ) H ∧ Ext sa g0 H0 g' H
  | [], [], vs, g, st, st', σ, R, E, K, e => by
    cases K
    simp only [keeps] at e
    cases e
    exact ⟨g, R, E⟩
  | [], _ :: _, _, _, _, _, _, _, _, _, e => by simp only [keeps] at e; cases e
  | _ :: _, [], _, _, _, _, _, _, _, _, e => by simp only [keeps] at e; cases e
  | i :: is, r :: rs, vs, g, st, st', σ, R, E, K, e => by
    simp only [keeps, Option.bind_eq_some_iff] at e
    obtain ⟨st1, e1, e2⟩ := e
    cases K with
    | dat h t =>
      simp only [keep] at e1
      cases e1
      simp only [setAll]
      exact keeps_ok (R.bind h) E t e2
    | lst h0 h1 h2 h3 h4 h5 m h6 t =>
      simp only [keep] at e1
      cases e1
      simp only [setAll]
      exact keeps_ok (R.adopt h1 h2 h3 h4 h5) (E.own h0) ((t.own h6).weak m) e2
    | dct h0 h1 h2 h3 h4 h5 m h6 t =>
      simp only [keep] at e1
      cases e1
      simp only [setAll]
      exact keeps_ok (R.adoptD h1 h2 h3 h4 h5) (E.own h0) ((t.own h6).weak m) e2
def tDK (sa : SA) (ev : St → Option (List Rv × St)) : TA := fun σ H Q => ∃ g st rs st', SR sa g st σ H ∧ ev st = some (rs, st') ∧ ∀ vs g' H', SR sa g' st' σ H' → Ext sa g H g' H' → KAll sa H g' H' vs rs → Q vs H'
structure DK (X : Cx) (sa : SA) (es : List Expr) (ev : St → Option (List Rv × St)) : Prop where
  pa : PA X es (tDK sa ev)
theorem dk_nil : DK X sa [] (evalk Γ .nil) := by
  refine ⟨L2.pa_nil.wk fun σ H Q ⟨g, st, ds, st', R, e, k⟩ => ?_⟩
  simp only [evalk] at e
  cases e
  exact k [] g H R .refl .nil
theorem unview_ok {g0 g : Gh} {H0 H : Hp} {st st' : St} {σ : L2.St} {v : V} {r r' : Rv} (R : SR sa g st σ H) (E : Ext sa g0 H0 g H) (O : RvOk sa H0 g σ H v r) (e : unview st r = some (r', st')) :
    ∃ g', SR sa g' st' σ H ∧ Ext sa g0 H0 g' H ∧ ((∃ d, r' = .dat d ∧ Dt g'.Z v d) ∨ (∃ xs, r' = .lst xs ∧ RvOk sa H0 g' σ H v (.lst xs)) ∨ ∃ T kvs, r' = .dct T kvs ∧ RvOk sa H0 g' σ H v (.dct T kvs)) := by
  cases r with
  | dat d => cases e; exact ⟨g, R, E, .inl ⟨d, rfl, O⟩⟩
  | src => cases e
  | lst xs => cases e; exact ⟨g, R, E, .inr (.inl ⟨xs, rfl, O⟩)⟩
  | dct T kvs => cases e; exact ⟨g, R, E, .inr (.inr ⟨T, kvs, rfl, O⟩)⟩
  | view j =>
    simp only [unview, Option.map_eq_some_iff] at e
    obtain ⟨⟨d, st1⟩, e1, e2⟩ := e
    cases e2
    obtain ⟨g1, R1, E1, z1, O1⟩ := frz_ok R E O e1
    exact ⟨g1, R1, E1, .inl ⟨d, rfl, O1⟩⟩
theorem dk_cons {e : Expr} {es : List Expr} {c : Ex} {cs : Exs} (h : DE X sa e (eval Γ c)) (hs : DK X sa es (evalk Γ cs)) : DK X sa (e :: es) (evalk Γ (.cons c cs)) := by
  refine ⟨(L2.pa_cons h.pe hs.pa (starEach_ok h.ok)).wk fun σ H Q ⟨g, st, ds, st', R, e, k⟩ => ?_⟩
  simp only [evalk, Option.bind_eq_some_iff, Option.map_eq_some_iff] at e
  obtain ⟨⟨r1, st1⟩, e1, ⟨r2, st2⟩, e2, ⟨rs', st3⟩, e3, e4⟩ := e
  cases e4
  refine ⟨g, st, r1, st1, R, e1, fun v g1 H1 R1 E1 O1 => ?_⟩
  obtain ⟨g2, R2, E2, O2⟩ := unview_ok R1 E1 O1 e2
  refine ⟨g2, st2, rs', st3, R2, e3, fun vs g3 H3 R3 E3 O3 => k (v :: vs) g3 H3 R3 (E2.trans E3) ?_⟩
  rcases O2 with ⟨d, rfl, O2⟩ | ⟨xs, rfl, O2⟩ | ⟨T, kvs, rfl, O2⟩
  · exact .dat (dtMono E3.z _ O2) (O3.weak E2.there)
  · obtain ⟨p, us, rfl, h0, h1, h2, h3, h4, h5⟩ := O2
    obtain ⟨e1, e2, e3⟩ := E3.keep p _ h1 h4 h5
    exact .lst h0 e1 (dtAllMono E3.z _ h2) (e3 ntupL h3) e2 h5 E2.there (by rw [h1]; exact fun z => nomatch z) O3
  · obtain ⟨p, us, rfl, h0, h1, h2, h3, h4, h5⟩ := O2
    obtain ⟨e1, e2, e3⟩ := E3.keep p _ h1 h4 h5
    exact .dct h0 e1 (h2.mono E3.z) (e3 h2.no h3) e2 h5 E2.there (by rw [h1]; exact fun z => nomatch z) O3
theorem ds_par2 (hc : X.calm = true) (hN : X.N.Nodup) {i j : Nat} {x y : Str} {a b : Expr} {cs : Exs} {px py pt pos : Pos} {kt k2 pt2} (hi : X.N[i]? = some x) (hj : X.N[j]? = some y) (hij : i ≠ j)
    (hx : X.env.scope.names.lookup x = some .local) (hy : X.env.scope.names.lookup y = some .local) (ha : DK X sa [a, b] (evalk Γ cs))
    (hw : swappedStores [.Tuple [.Name x px, .Name y py] kt pt] (.Tuple [a, b] k2 pt2) X.env = pure (some [x, y])) :
    DS X sa (.Assign [.Tuple [.Name x px, .Name y py] kt pt] (.Tuple [a, b] k2 pt2) pos) (exec Γ (.asgN [i, j] cs)) :=
  (L2.ps_par hc hN hi hj hij hx hy ha.pa hw rfl).wk fun D σ H ⟨g, st, o, R, e, k⟩ => by
    simp only [exec, Option.bind_eq_some_iff, Option.map_eq_some_iff] at e
    obtain ⟨⟨rs, st1⟩, e1, st2, e2, e3⟩ := e
    cases e3
    refine ⟨g, st, rs, st1, R, e1, fun vs g1 H1 R1 E1 O1 => ?_⟩
    have hl : ∃ r1 r2, rs = [r1, r2] := by
      match rs, e2 with
      | [], e2 => simp [keeps] at e2
      | [_], e2 => simp [keeps] at e2
      | [r1, r2], _ => exact ⟨r1, r2, rfl⟩
      | _ :: _ :: _ :: _, e2 => simp [keeps] at e2
    obtain ⟨r1, r2, rfl⟩ := hl
    have tl : ∀ {H0 : Hp} {vs : List V} {r : Rv} {rs : List Rv}, KAll sa H0 g1 H1 vs (r :: rs) → ∃ v ws H2, vs = v :: ws ∧ KAll sa H2 g1 H1 ws rs := by
      intro H0 vs r rs K
      cases K with
      | dat _ t => exact ⟨_, _, _, rfl, t⟩
      | lst _ _ _ _ _ _ _ _ t => exact ⟨_, _, _, rfl, t⟩
      | dct _ _ _ _ _ _ _ _ t => exact ⟨_, _, _, rfl, t⟩
    obtain ⟨v, ws, H2, rfl, K1⟩ := tl O1
    obtain ⟨w, ws, H3, rfl, K2⟩ := tl K1
    cases K2
    obtain ⟨g2, R2, E2⟩ := keeps_ok R1 E1 O1 e2
    exact ⟨v, w, rfl, k _ g2 H1 R2 E2⟩
theorem ds_par3 (hc : X.calm = true) (hN : X.N.Nodup) {i j l : Nat} {x y z : Str} {a b c : Expr} {cs : Exs} {px py pz pt pos : Pos} {kt k2 pt2} (hi : X.N[i]? = some x) (hj : X.N[j]? = some y) (hl : X.N[l]? = some z) (hij : i ≠ j) (hil : i ≠ l) (hjl : j ≠ l)
    (hx : X.env.scope.names.lookup x = some .local) (hy : X.env.scope.names.lookup y = some .local) (hz : X.env.scope.names.lookup z = some .local) (ha : DK X sa [a, b, c] (evalk Γ cs))
    (hw : swappedStores [.Tuple [.Name x px, .Name y py, .Name z pz] kt pt] (.Tuple [a, b, c] k2 pt2) X.env = pure (some [x, y, z])) :
    DS X sa (.Assign [.Tuple [.Name x px, .Name y py, .Name z pz] kt pt] (.Tuple [a, b, c] k2 pt2) pos) (exec Γ (.asgN [i, j, l] cs)) :=
  (L2.ps_par3 hc hN hi hj hl hij hil hjl hx hy hz ha.pa hw rfl).wk fun D σ H ⟨g, st, o, R, e, k⟩ => by
    simp only [exec, Option.bind_eq_some_iff, Option.map_eq_some_iff] at e
    obtain ⟨⟨rs, st1⟩, e1, st2, e2, e3⟩ := e
    cases e3
    refine ⟨g, st, rs, st1, R, e1, fun vs g1 H1 R1 E1 O1 => ?_⟩
    have hl : ∃ r1 r2 r3, rs = [r1, r2, r3] := by
      match rs, e2 with
      | [], e2 => simp [keeps] at e2
      | [_], e2 => simp [keeps] at e2
      | [_, _], e2 => simp [keeps] at e2
      | [r1, r2, r3], _ => exact ⟨r1, r2, r3, rfl⟩
      | _ :: _ :: _ :: _ :: _, e2 => simp [keeps] at e2
    obtain ⟨r1, r2, r3, rfl⟩ := hl
    have tl : ∀ {H0 : Hp} {vs : List V} {r : Rv} {rs : List Rv}, KAll sa H0 g1 H1 vs (r :: rs) → ∃ v ws H2, vs = v :: ws ∧ KAll sa H2 g1 H1 ws rs := by
      intro H0 vs r rs K
      cases K with
      | dat _ t => exact ⟨_, _, _, rfl, t⟩
      | lst _ _ _ _ _ _ _ _ t => exact ⟨_, _, _, rfl, t⟩
      | dct _ _ _ _ _ _ _ _ t => exact ⟨_, _, _, rfl, t⟩
    obtain ⟨v1, ws, H2, rfl, K1⟩ := tl O1
    obtain ⟨v2, ws, H3, rfl, K2⟩ := tl K1
    obtain ⟨v3, ws, H4, rfl, K3⟩ := tl K2
    cases K3
    obtain ⟨g2, R2, E2⟩ := keeps_ok R1 E1 O1 e2
    exact ⟨v1, v2, v3, rfl, k _ g2 H1 R2 E2⟩
end
end Pf

set_option maxRecDepth 100000
/-! Pf9b: statements, part 2: lists that are changed, loops. -/
namespace Pf
open PySem PySem.Spec PyProof.Rows
open L2 (V Hp HO upd upd_same upd_ne Same SqL SqT Dp DpAll Key Vals Cx Inv OpR R2 VK PE PT PA PS PSs PI PG PGs PTs PSet PGet PIp TE TT TA TS TI TG TGs TIp It Itl Itt Itr Ite Itz RelV EP Vis Loc Gl Room Env0 CE CallR tCB TyOf TyX wipe BlkOk Ends)
section
variable {X : Cx} {sa : SA} (Γ : Nat → Fn)
theorem isLst_own {g : Gh} {st : St} {σ : L2.St} {H : Hp} {i : Nat} (R : SR sa g st σ H) (h : isLst (st.get i) = true) : ∃ a vs, σ[i]? = some (some (.ref a)) ∧ H a = some (.lst vs) := by
  obtain ⟨xs, h⟩ := isLst_some h
  obtain ⟨a, vs, h1, h2, _⟩ := R.own_lst h
  exact ⟨a, vs, h1, h2⟩
theorem ds_app {i : Nat} {x : Str} {e : Expr} {c : Ex} {p apos cpos pos : Pos} (hN : X.N[i]? = some x) (hv : Vis X.env.scope x) (hd : (x == ("__debug__" : Str)) = false) (hcd : (x == ("__classdict__" : Str)) = false) (hl : (apos.endLine == cpos.line) = true) (h : DE X sa e (eval Γ c)) :
    DS X sa (.Expr (.Call (.Attribute (.Name x p) "append" apos) [e] [] cpos) pos) (exec Γ (.app i c)) := by
  refine (L2.ps_expr (L2.pe_bm PySem.F.plainAttrs_list PySem.F.slot_list_append PySem.F.type_list_append L2.mt_append (pe_name hN hv hd hcd) (L2.pa_cons h.pe L2.pa_nil (starEach_ok h.ok)) rfl (few_one h.ok) hl (starEach_ok h.ok) rfl) rfl).wk fun D σ H ⟨g, st, o, R, e, k⟩ => ?_
  simp only [exec] at e
  split at e
  rotate_left
  · cases e
  rename_i hi
  simp only [Option.bind_eq_some_iff] at e
  obtain ⟨⟨r, st1⟩, e1, ⟨d, st2⟩, e2, e3⟩ := e
  dsimp only at e3
  split at e3
  rotate_left
  · cases e3
  rename_i xs hx
  split at e3
  rotate_left
  · cases e3
  rename_i hz
  cases e3
  obtain ⟨a, vs0, h1, h2⟩ := isLst_own R hi
  refine ⟨_, h1, .inl ⟨rfl, vs0, SqL.of h2⟩, g, st, r, st1, R, e1, fun v g1 H1 R1 E1 O1 => ?_⟩
  obtain ⟨g2, R2, E2, z2, O2⟩ := frz_ok R1 E1 O1 e2
  obtain ⟨a', vs, h1', h3, h4⟩ := R2.own_lst hx
  rw [h1] at h1'
  cases h1'
  obtain ⟨R3, E3⟩ := R2.change hx h1 (h4.append (.cons O2 .nil))
  exact ⟨a, vs, v, rfl, rfl, h3, by rw [h4.len]; exact hz, k σ _ _ R3 (E2.trans E3)⟩
theorem ds_ext {i : Nat} {x : Str} {e : Expr} {c : Ex} {p apos cpos pos : Pos} (hN : X.N[i]? = some x) (hv : Vis X.env.scope x) (hd : (x == ("__debug__" : Str)) = false) (hcd : (x == ("__classdict__" : Str)) = false) (hl : (apos.endLine == cpos.line) = true) (h : DE X sa e (eval Γ c)) :
    DS X sa (.Expr (.Call (.Attribute (.Name x p) "extend" apos) [e] [] cpos) pos) (exec Γ (.ext i c)) := by
  refine (L2.ps_expr (L2.pe_bm PySem.F.plainAttrs_list PySem.F.slot_list_extend PySem.F.type_list_extend L2.mt_extend (pe_name hN hv hd hcd) (L2.pa_cons h.pe L2.pa_nil (starEach_ok h.ok)) rfl (few_one h.ok) hl (starEach_ok h.ok) rfl) rfl).wk fun D σ H ⟨g, st, o, R, e, k⟩ => ?_
  simp only [exec] at e
  split at e
  rotate_left
  · cases e
  rename_i hi
  simp only [Option.bind_eq_some_iff] at e
  obtain ⟨⟨r, st1⟩, e1, ⟨d, st2⟩, e2, e3⟩ := e
  dsimp only at e3
  split at e3
  rotate_left
  · cases e3
  rename_i xs hx
  simp only [Option.bind_eq_some_iff] at e3
  obtain ⟨ys, hy, e3⟩ := e3
  split at e3
  rotate_left
  · cases e3
  rename_i hz
  cases e3
  have hy := listOf_some hy
  subst hy
  obtain ⟨a, vs0, h1, h2⟩ := isLst_own R hi
  refine ⟨_, h1, .inl ⟨rfl, vs0, SqL.of h2⟩, g, st, r, st1, R, e1, fun v g1 H1 R1 E1 O1 => ?_⟩
  obtain ⟨g2, R2, E2, z2, O2⟩ := frz_ok R1 E1 O1 e2
  obtain ⟨a', vs, h1', h3, h4⟩ := R2.own_lst hx
  rw [h1] at h1'
  cases h1'
  cases O2 with
  | lst q1 q2 =>
    obtain ⟨R3, E3⟩ := R2.change hx h1 (h4.append q2)
    exact ⟨a, _, vs, _, rfl, rfl, h3, R2.sub.at q1, by rw [h4.len, q2.len]; exact hz, k σ _ _ R3 (E2.trans E3)⟩
def sDSet : V → V → V → Hp → (Hp → Prop) → Prop := fun o i v H Q => ∃ a H', o = .ref a ∧ L2.DPut H a i v H' ∧ Q H'
theorem set_dict (hu : X.A.units + 1 < cLine) : PSet X sDSet := by
  intro pins s σ H o i v ov iv u Q I ro ri rv h
  obtain ⟨a, H', rfl, p, q⟩ := h
  cases ro
  exact L2.d_setItem hu I p ri rv fun s' I' => ⟨H', I', q⟩
theorem pset_or {t t' : V → V → V → Hp → (Hp → Prop) → Prop} (h : PSet X t) (h' : PSet X t') : PSet X fun o i v H Q => t o i v H Q ∨ t' o i v H Q := by
  intro pins s σ H o i v ov iv u Q I ro ri rv q
  rcases q with q | q
  · exact h pins s σ H o i v ov iv u Q I ro ri rv q
  · exact h' pins s σ H o i v ov iv u Q I ro ri rv q
theorem isOwn_own {g : Gh} {st : St} {σ : L2.St} {H : Hp} {i : Nat} (R : SR sa g st σ H) (h : isOwn (st.get i) = true) : ∃ a, σ[i]? = some (some (.ref a)) := by
  have s := R.slot i
  cases q : st.get i with
  | lst xs =>
    rw [q] at s
    obtain ⟨a, vs, e, _⟩ := s
    exact ⟨a, e⟩
  | dct T kvs =>
    rw [q] at s
    obtain ⟨a, vs, e, _⟩ := s
    exact ⟨a, e⟩
  | _ => rw [q] at h; cases h
/-- a store of a value into a slot's list or dict -/
theorem setAt_ok (hu : X.A.units + 1 < cLine) {i : Nat} {x : Str} {b : Expr} {cb : Ex} {p p2 : Pos} (hN : X.N[i]? = some x) (hv : Vis X.env.scope x) (hd : (x == ("__debug__" : Str)) = false) (hcd : (x == ("__classdict__" : Str)) = false) (hb : DE X sa b (eval Γ cb))
    (ha : ∀ v, assign (.Subscript (.Name x p) b p2) X.env v = (do
        let ov ← holding [v] (PySem.eval (.Name x p) X.env)
        let iv ← holding [v, ov] (PySem.eval b X.env)
        standAt p2
        holding [v, ov, iv] (setItem ov iv v)
        release [v, ov, iv] [])) :
    PG X (.Subscript (.Name x p) b p2) (fun v σ H Q => ∃ g st d st', SR sa g st σ H ∧ Dt g.Z v d ∧ setAt Γ i cb d st = some st' ∧ ∀ g' H', SR sa g' st' σ H' → Ext sa g H g' H' → Q σ H') :=
  (L2.pg_sub (pe_name hN hv hd hcd) hb.pe (pset_or L2.set_list (set_dict hu)) ha).wk fun v σ H Q ⟨g, st, d, st', R, O, e, k⟩ => by
    simp only [setAt] at e
    split at e
    rotate_left
    · cases e
    rename_i hi
    simp only [Option.bind_eq_some_iff] at e
    obtain ⟨⟨r2, st3⟩, e3, e4⟩ := e
    dsimp only at e4
    obtain ⟨a, h1⟩ := isOwn_own R hi
    refine ⟨_, h1, g, st, _, st3, R, e3, fun u g3 H3 R3 E3 O3 => ?_⟩
    split at e4
    · rename_i xs hx
      split at e4
      rotate_left
      · cases e4
      rename_i n
      simp only [Option.map_eq_some_iff] at e4
      obtain ⟨j, hj, e5⟩ := e4
      cases e5
      have O3 : Dt g3.Z u (.int n) := O3
      cases O3
      obtain ⟨a', vs, h1', h3, h4⟩ := R3.own_lst hx
      rw [h1] at h1'
      cases h1'
      obtain ⟨R4, E4⟩ := R3.change hx h1 (h4.set j (dtMono E3.z _ O))
      exact .inl ⟨a, vs, n, j, rfl, rfl, h3, by rw [h4.len]; exact hj, k _ _ R4 (E3.trans E4)⟩
    · rename_i T kvs hx
      split at e4
      rotate_left
      · cases e4
      rename_i y
      split at e4
      rotate_left
      · cases e4
      rename_i hk
      cases e4
      simp only [Bool.and_eq_true, decide_eq_true_eq] at hk
      have s := R3.slot i
      rw [hx] at s
      obtain ⟨a', o, h1', h3, h4, h5, h6⟩ := s
      rw [h1] at h1'
      cases h1'
      obtain ⟨o', p1, p2⟩ := dput_of R3.sub h4 h3 (show Dt g3.Z u y from O3) hk.1 hk.2 (dtMono E3.z _ O)
      obtain ⟨R4, E4⟩ := R3.changeD hx h1 p2 (o := o')
      exact .inr ⟨a, _, rfl, p1, k _ _ R4 (E3.trans E4)⟩
    · cases e4
theorem ds_setI (hu : X.A.units + 1 < cLine) {i : Nat} {x : Str} {e b : Expr} {c cb : Ex} {p p2 pos : Pos} (hN : X.N[i]? = some x) (hv : Vis X.env.scope x) (hd : (x == ("__debug__" : Str)) = false) (hcd : (x == ("__classdict__" : Str)) = false) (hb : DE X sa b (eval Γ cb)) (h : DE X sa e (eval Γ c))
    (ha : ∀ v, assign (.Subscript (.Name x p) b p2) X.env v = (do
      let ov ← holding [v] (PySem.eval (.Name x p) X.env)
      let iv ← holding [v, ov] (PySem.eval b X.env)
      standAt p2
      holding [v, ov, iv] (setItem ov iv v)
      release [v, ov, iv] [])) (hs : swapsWith e (some (.Subscript (.Name x p) b p2)) pos.line X.env = pure false) :
    DS X sa (.Assign [.Subscript (.Name x p) b p2] e pos) (exec Γ (.setI i cb c)) :=
  (L2.ps_asg h.pe (setAt_ok Γ hu hN hv hd hcd hb ha) hs rfl rfl).wk fun D σ H ⟨g, st, o, R, e, k⟩ => by
    simp only [exec, Option.bind_eq_some_iff, Option.map_eq_some_iff] at e
    obtain ⟨⟨r, st1⟩, e1, ⟨d, st2⟩, e2, st3, e3, e4⟩ := e
    cases e4
    refine ⟨g, st, r, st1, R, e1, fun v g1 H1 R1 E1 O1 => ?_⟩
    obtain ⟨g2, R2, E2, z2, O2⟩ := frz_ok R1 E1 O1 e2
    exact ⟨g2, st2, d, st3, R2, O2, e3, fun g' H' R' E' => k σ _ _ R' (E2.trans E')⟩
/-! ### op= -/
theorem ip_of {op : Operator} {r : R2} (h : OpR X (inplaceOp op) r) : PIp X op r := fun pins s σ H x y v u Q I r1 r2 q => h pins s σ H x y v u Q I r1 r2 q
def augAst : Op2 → Option Operator
  | .add => some .Add
  | .sub => some .Sub
  | .mul => some .Mult
  | _ => none
/-- op= on ints -/
theorem aug_ip {o : Op2} {op : Operator} (h : augAst o = some op) : ∃ t : TIp, PIp X op t ∧ ∀ {x y z : Int} {H : Hp} {Q : VK}, augOp o x y = some z → Q (.int z) H → t (.int x) (.int y) H Q := by
  cases o <;> simp only [augAst, reduceCtorEq, Option.some.injEq] at h <;> subst h
  · exact ⟨_, L2.ip_add, fun {x y z H Q} e q => ⟨x, y, rfl, rfl, by simp only [augOp, Option.some.injEq] at e; subst e; exact q⟩⟩
  · exact ⟨_, L2.ip_sub, fun {x y z H Q} e q => ⟨x, y, rfl, rfl, by simp only [augOp, Option.some.injEq] at e; subst e; exact q⟩⟩
  · refine ⟨_, ip_of L2.iop_mul, fun {x y z H Q} e q => ?_⟩
    simp only [augOp] at e
    split at e
    · rename_i hs
      cases e
      refine ⟨x, y, rfl, rfl, ?_, q⟩
      simp only [smallI, Bool.or_eq_true, decide_eq_true_eq] at hs
      rcases hs with hs | hs
      · exact .inl (by omega)
      · exact .inr (by omega)
    · cases e
theorem ds_augN (hN : X.N.Nodup) {i : Nat} {x : Str} {o : Op2} {op : Operator} {e : Expr} {c : Ex} {p pos : Pos} (hi : X.N[i]? = some x) (hx : Loc X.env.scope x) (hf : X.fn x = true ∨ X.env.scope.names.lookup x = some .local) (ho : augAst o = some op) (h : DE X sa e (eval Γ c)) :
    DS X sa (.AugAssign (.Name x p) op e pos) (exec Γ (.augN i o c)) := by
  obtain ⟨t, ht, hq⟩ := aug_ip (X := X) ho
  refine (L2.ps_aug hN hi hx h.pe ht hf).wk fun D σ H ⟨g, st, o', R, e, k⟩ => ?_
  simp only [exec] at e
  split at e
  rotate_left
  · cases e
  rename_i a hs
  simp only [Option.bind_eq_some_iff] at e
  obtain ⟨⟨r, st1⟩, e1, e2⟩ := e
  dsimp only at e2
  split at e2
  rotate_left
  · cases e2
  rename_i b
  simp only [Option.map_eq_some_iff] at e2
  obtain ⟨z, ez, e3⟩ := e2
  cases e3
  have s := R.slot i
  rw [hs] at s
  obtain ⟨v, h1, r1⟩ := s
  cases r1
  refine ⟨_, h1, g, st, _, st1, R, e1, fun u g1 H1 R1 E1 O1 => ?_⟩
  have O1 : Dt g1.Z u (.int b) := O1
  cases O1
  exact hq ez (k _ g1 H1 (R1.bind (.int z)) E1)
theorem pget_list : PGet X (fun o i H Q => ∃ p xs n v, o = .ref p ∧ i = .int n ∧ SqL X.K H p xs ∧ L2.atI xs n = some v ∧ Q v H) := by
  intro pins s σ H x y v u Q I rx ry h
  obtain ⟨p, xs, i, z, rfl, rfl, hq, he, q⟩ := h
  cases rx
  obtain ⟨t, rfl⟩ := ry
  obtain ⟨its, r, pl, hz⟩ := I.list hq
  obtain ⟨j, h1, h2, h3, h4, h5⟩ := L2.atI_get he
  obtain ⟨w, ew, rw'⟩ := r.get h2
  have hl := r.length
  have hn := L2.line63
  have fin : EP X pins σ Q w s := ⟨z, H, I, rw', q⟩
  by_cases h0 : 0 ≤ i
  · have hj : i.toNat = j := by
      rw [seqIndex_of h0 h5] at h1
      exact Option.some.inj h1
    exact wpAny_getItem_list pl.isList h0 (by omega) (by rw [hj]; simpa using ew) fin
  · have hj : (i + (its.toArray.size : Int)).toNat = j := by
      rw [seqIndex_neg (by omega) h4] at h1
      rw [List.size_toArray, ← hl]
      exact Option.some.inj h1
    exact wpAny_getItem_list_neg pl.isList (by omega) (by rw [List.size_toArray] <;> omega) (by omega) (by rw [hj]; simpa using ew) fin
theorem ds_augI {i : Nat} {x : Str} {o : Op2} {op : Operator} {b e : Expr} {cb c : Ex} {p p2 pos : Pos} (hN : X.N[i]? = some x) (hv : Vis X.env.scope x) (hd : (x == ("__debug__" : Str)) = false) (hcd : (x == ("__classdict__" : Str)) = false) (ho : augAst o = some op) (hb : DE X sa b (eval Γ cb)) (h : DE X sa e (eval Γ c))
    (ha : ∀ ov iv new, augStore b ov iv new = (do holding [new, ov, iv] (setItem ov iv new); release [new, ov, iv] []; pure .next)) :
    DS X sa (.AugAssign (.Subscript (.Name x p) b p2) op e pos) (exec Γ (.augI i cb o c)) := by
  obtain ⟨t, ht, hq⟩ := aug_ip (X := X) ho
  refine (L2.ps_augS (pe_name hN hv hd hcd) hb.pe pget_list h.pe ht L2.set_list ha).wk fun D σ H ⟨g, st, o', R, e, k⟩ => ?_
  simp only [exec] at e
  split at e
  rotate_left
  · cases e
  rename_i hi
  simp only [Option.bind_eq_some_iff] at e
  obtain ⟨⟨r, st1⟩, e1, e2⟩ := e
  dsimp only at e2
  split at e2
  rotate_left
  · cases e2
  rename_i n xs hx
  simp only [Option.bind_eq_some_iff] at e2
  obtain ⟨d, hd, ⟨r2, st2⟩, e3, e4⟩ := e2
  dsimp only at e4
  split at e4
  rotate_left
  · cases e4
  rename_i a b' ys hy
  simp only [Option.bind_eq_some_iff, Option.map_eq_some_iff] at e4
  obtain ⟨z, ez, j, hj, e5⟩ := e4
  cases e5
  obtain ⟨ad, vs0, h1, _⟩ := isLst_own R hi
  refine ⟨_, h1, g, st, _, st1, R, e1, fun u g1 H1 R1 E1 O1 => ?_⟩
  have O1 : Dt g1.Z u (.int n) := O1
  cases O1
  obtain ⟨a1, vs1, h1', h2, h3⟩ := R1.own_lst hx
  rw [h1] at h1'
  cases h1'
  have hv : L2.atI vs1 n = some (.int a) := by
    unfold L2.atI at hd ⊢
    rw [h3.len]
    cases q : L2.ixN xs.length n with
    | none => rw [q] at hd; cases hd
    | some m =>
      rw [q] at hd
      obtain ⟨w, ew, rw'⟩ := h3.get hd
      cases rw'
      exact ew
  refine ⟨ad, vs1, n, _, rfl, rfl, SqL.of h2, hv, g1, st1, _, st2, R1, e3, fun w g2 H2 R2 E2 O2 => ?_⟩
  have O2 : Dt g2.Z w (.int b') := O2
  cases O2
  refine hq ez ?_
  obtain ⟨a2, vs2, h2', h4, h5⟩ := R2.own_lst hy
  rw [h1] at h2'
  cases h2'
  obtain ⟨R3, E3⟩ := R2.change hy h1 (h5.set j (.int z))
  exact ⟨ad, vs2, n, j, rfl, rfl, h4, by rw [h5.len]; exact hj, k σ _ _ R3 ((E1.trans E2).trans E3)⟩
/-! ### loops -/
def bodyF (tg : Tg) (body : Sms) : D → St → Option Out := fun d s => (bindT tg d s).bind fun s => execs Γ body s
theorem SR.clear {g : Gh} {st : St} {σ : L2.St} {H : Hp} (R : SR sa g st σ H) (tmp : List Nat) : SR sa g (Pf.clear tmp st) σ H := R.hide tmp
theorem EndOk.after {g g1 : Gh} {H H1 : Hp} {D : Ends} {o : Out} (h : EndOk sa g H D o) (E : Ext sa g H g1 H1) : EndOk sa g1 H1 D o := by
  cases o with
  | nx st' => exact fun σ' g' H' R' E' => h σ' g' H' R' (E.trans E')
  | bk st' => exact fun σ' g' H' R' E' => h σ' g' H' R' (E.trans E')
  | ct st' => exact fun σ' g' H' R' E' => h σ' g' H' R' (E.trans E')
  | rt r st' => exact fun v σ' g' H' R' E' O' => h v σ' g' H' R' (E.trans E') (O'.weak E.there)
/-- what is left of a loop's reading when its iterable stands -/
theorem for_rest {D : Ends} {σ : L2.St} {H1 : Hp} {tmp : List Nat} {t : Tg} {cs : Sms} {J : It} {L : List (Addr × HO)} {g1 : Gh} {p2 : St} {ds : List Pf.D} {o : Out}
    (R1 : SR sa g1 p2 σ H1) (HL : Held sa L g1 H1) (Y : Yields J L g1.Z ds) (run : forRun tmp (bodyF Γ t cs) ds p2 = some o) (k : EndOk sa g1 H1 D o) :
    ∃ W : Nat → Nat → L2.St → Hp → Prop, (∃ m, W 0 m σ H1) ∧ ∀ i m σ H, W i m σ H →
      (J.stop i H ∧ D.nx σ H) ∨ (J.go i H ∧ ∃ N : L2.St → Hp → Prop, (∀ σ' H', N σ' H' → ∃ m', m' < m ∧ W (i + 1) m' σ' H') ∧ ∀ x H', J.yld i H x H' → gD sa t x σ H' fun σ2 H2 => tDS sa (execs Γ cs) { D with nx := N, ct := N, bk := D.nx } σ2 H2) := by
  let W : Nat → Nat → L2.St → Hp → Prop := fun i m σ' H' => m = ds.length - i ∧ i ≤ ds.length ∧ ∃ g' st', SR sa g' st' σ' H' ∧ Ext sa g1 H1 g' H' ∧ Same g1.Z g'.Z ∧ Held sa L g' H' ∧ forRun tmp (bodyF Γ t cs) (ds.drop i) st' = some o
  refine ⟨W, ⟨ds.length, rfl, Nat.zero_le _, g1, p2, R1, .refl, Same.refl _, HL, run⟩, ?_⟩
  rintro i m σ' H' ⟨rfl, hi, g', st', R', E', z', HL', run⟩
  by_cases hlt : i < ds.length
  · have hd : ds.drop i = ds[i] :: ds.drop (i + 1) := List.drop_eq_getElem_cons hlt
    rw [hd] at run
    simp only [forRun, bodyF, Option.bind_eq_some_iff] at run
    obtain ⟨o1, ⟨s1, e2, e3⟩, e4⟩ := run
    refine .inr ⟨Y.go i H' (z'.subT R'.sub) HL'.hs hlt, fun σ'' H'' => W (i + 1) (ds.length - (i + 1)) σ'' H'', fun σ'' H'' w => ⟨_, by omega, w⟩, fun v H2 y => ?_⟩
    obtain ⟨g2, d, hd', R2, E2, O2⟩ := R'.turn Y HL'.hs z' hlt y
    rw [List.getElem?_eq_getElem hlt] at hd'
    cases hd'
    refine ⟨g2, Pf.clear tmp st', _, s1, R2.clear tmp, O2, e2, fun σ2 Rb S2 => ⟨g2, s1, o1, Rb, e3, ?_⟩⟩
    cases o1 with
    | nx st3 => exact fun σ3 g3 H3 R3 E3 => ⟨rfl, hlt, g3, st3, R3, (E'.trans E2).trans E3, z'.trans (E2.z.trans E3.z), (HL'.ext E2).ext E3, e4⟩
    | ct st3 => exact fun σ3 g3 H3 R3 E3 => ⟨rfl, hlt, g3, st3, R3, (E'.trans E2).trans E3, z'.trans (E2.z.trans E3.z), (HL'.ext E2).ext E3, e4⟩
    | bk st3 =>
      cases e4
      exact fun σ3 g3 H3 R3 E3 => k σ3 g3 H3 (R3.clear tmp) ((E'.trans E2).trans E3)
    | rt r st3 =>
      cases e4
      exact fun v σ3 g3 H3 R3 E3 O3 => k v σ3 g3 H3 R3 ((E'.trans E2).trans E3) (O3.weak (E'.trans E2).there)
  · have e : i = ds.length := by omega
    subst e
    rw [List.drop_length] at run
    simp only [forRun, Option.some.injEq] at run
    subst run
    exact .inl ⟨Y.stop H' (z'.subT R'.sub) HL'.hs, k σ' g' H' (R'.clear tmp) E'⟩
theorem ds_for (hp : PassesOwn (model X.prog X.w) X.A X.env X.xe) (hc : X.calm = true) {tmp : List Nat} {tg it : Expr} {t : Tg} {i : Itx} {body : List Stmt} {cs : Sms} {pos : Pos} (hi : DI X sa tg it (evalI Γ i)) (hg : DG X sa tg t) (hb : DSs X sa body (execs Γ cs)) :
    DS X sa (.For tg it body [] pos) (exec Γ (.for tmp t i cs)) := by
  refine (L2.ps_for hp hc hi.pi hg.pg hb hi.fold).wk fun D σ H ⟨g, st, o, R, e, k⟩ => ?_
  have e : (evalI Γ i st).bind (fun p => forRun tmp (bodyF Γ t cs) p.1 p.2) = some o := by
    simp only [exec] at e
    exact e
  simp only [Option.bind_eq_some_iff] at e
  obtain ⟨⟨ds, p2⟩, e1, run⟩ := e
  exact ⟨g, st, ds, p2, R, e1, fun J L g1 H1 R1 E1 HL Y => for_rest Γ R1 HL Y run (EndOk.after k E1)⟩
theorem ds_whl (hp : PassesOwn (model X.prog X.w) X.A X.env X.xe) {fuel : Nat} {tmp : List Nat} {c : Expr} {cc : Ex} {body : List Stmt} {cs : Sms} {pos : Pos} (hc : DE X sa c (eval Γ cc)) (hb : DSs X sa body (execs Γ cs)) :
    DS X sa (.While c body [] pos) (exec Γ (.whl fuel tmp cc cs)) := by
  refine (L2.ps_while hp hc.pt hb).wk fun D σ H ⟨g, st, o, R, e, k⟩ => ?_
  simp only [exec] at e
  let W : Nat → L2.St → Hp → Prop := fun m σ' H' => ∃ g' st', SR sa g' st' σ' H' ∧ Ext sa g H g' H' ∧ whlRun tmp (fun s => asBool (eval Γ cc s)) (fun s => execs Γ cs s) m st' = some o
  refine ⟨W, ⟨fuel + srcLen st.src, g, st, R, .refl, e⟩, ?_⟩
  rintro m σ' H' ⟨g', st', R', E', run⟩
  cases m with
  | zero => simp only [whlRun] at run; cases run
  | succ m =>
    simp only [whlRun, Option.bind_eq_some_iff] at run
    obtain ⟨⟨b, s1⟩, e1, e2⟩ := run
    refine ⟨g', Pf.clear tmp st', b, s1, R'.clear tmp, asBool_some e1, fun g2 H2 R2 E2 => ?_⟩
    cases b with
    | false =>
      simp only [Bool.false_eq_true, if_false, Option.some.injEq] at e2 ⊢
      subst e2
      exact k σ' g2 H2 R2 (E'.trans E2)
    | true =>
      simp only [if_true, Option.bind_eq_some_iff] at e2 ⊢
      obtain ⟨o1, e3, e4⟩ := e2
      refine ⟨fun σ'' H'' => W m σ'' H'', fun σ'' H'' w => ⟨m, Nat.lt_succ_self _, w⟩, g2, s1, o1, R2, e3, ?_⟩
      cases o1 with
      | nx st3 => exact fun σ3 g3 H3 R3 E3 => ⟨g3, st3, R3, (E'.trans E2).trans E3, e4⟩
      | ct st3 => exact fun σ3 g3 H3 R3 E3 => ⟨g3, st3, R3, (E'.trans E2).trans E3, e4⟩
      | bk st3 =>
        cases e4
        exact fun σ3 g3 H3 R3 E3 => k σ3 g3 H3 (R3.clear tmp) ((E'.trans E2).trans E3)
      | rt r st3 =>
        cases e4
        exact fun v σ3 g3 H3 R3 E3 O3 => k v σ3 g3 H3 R3 ((E'.trans E2).trans E3) (O3.weak (E'.trans E2).there)
end
end Pf

set_option maxRecDepth 100000
/-! Pf9c: the source of draws. -/
namespace Pf
open PySem PySem.Spec PyProof.Rows
open L2 (V Hp HO upd upd_same upd_ne Same SqL SqT Dp DpAll Key Vals Cx Inv OpR R2 VK PE PT PA PS PSs PI PG PGs PTs PSet PGet PIp TE TT TA TS TI TG TGs It RelV EP Vis Loc Gl Room Env0 CE CallR tCB TyOf TyX wipe BlkOk Ends DGet DPut valV putK)
def sfKey : Sf → Str
  | .left => "left"
  | .mixed => "mixed"
  | .turn => "turn"
theorem val_fld {c0 : Addr} {s : Src} (f : Sf) : valV (srcKvs c0 s) (kS (sfKey f)) = some (.int (s.fld f)) := by
  cases f <;> rfl
theorem val_cells {c0 : Addr} {s : Src} : valV (srcKvs c0 s) (kS "cells") = some (.ref c0) := rfl
theorem put_fld {c0 : Addr} {s : Src} (f : Sf) (n : Int) : putK (srcKvs c0 s) (kS (sfKey f)) (.int n) = srcKvs c0 (s.setf n f) := by
  cases f <;> rfl
section
variable {X : Cx} {sa : SA} (Γ : Nat → Fn)
theorem SR.src_at {g : Gh} {st : St} {σ : L2.St} {H : Hp} {i : Nat} (R : SR sa g st σ H) (h : st.get i = .src) : ∃ s0 c0 t, sa = some (s0, c0) ∧ σ[i]? = some (some (.ref s0)) ∧ st.src = some t ∧ SrcAt s0 c0 t g H := by
  have s := R.slot i
  rw [h] at s
  obtain ⟨s0, c0, e1, e2⟩ := s
  obtain ⟨t, e3, q⟩ := R.src.at e1
  exact ⟨s0, c0, t, e1, e2, e3, q⟩
theorem SR.srcUp {g : Gh} {st : St} {σ : L2.St} {H : Hp} {s0 c0 : Addr} {t t' : Src} {b : Addr} {o : HO} (R : SR (some (s0, c0)) g st σ H) (q : SrcAt s0 c0 t g H) (hb : b = s0 ∨ b = c0) (q' : SrcAt s0 c0 t' g (L2.upd H b o)) :
    SR (some (s0, c0)) g ⟨st.env, some t'⟩ σ (L2.upd H b o) ∧ Ext (some (s0, c0)) g H g (L2.upd H b o) := by
  have wb : g.w b = none := by
    rcases hb with rfl | rfl
    · exact q.ws
    · exact q.wc
  have zb : g.Z b = none := by
    rcases hb with rfl | rfl
    · exact q.zs
    · exact q.zc
  have there : ∀ a, H a ≠ none → (L2.upd H b o) a ≠ none := fun a h => by
    by_cases e : a = b
    · rw [e, upd_same]; exact fun z => nomatch z
    · rw [upd_ne e]; exact h
  refine ⟨⟨R.sub.keep fun a e => ?_, fun a j e => ⟨(R.own a j e).1, (R.own a j e).2.keep fun o' q => by rw [upd_ne (fun z => by rw [z, wb] at e; cases e)]; exact q⟩, R.len, fun j => (R.slot j).mono (Same.refl _) fun a us q1 q2 => ⟨?_, q2⟩, .inr ⟨s0, c0, t', rfl, rfl, q'⟩⟩, ⟨Same.refl _, fun a u e n ns => ⟨?_, n, fun _ z => z⟩, there⟩⟩
  · rw [upd_ne (fun z => e (by rw [z]; exact zb))]
  · rw [upd_ne (fun z => by rw [z, wb] at q2; cases q2)]
    exact q1
  · obtain ⟨n1, n2⟩ := ns s0 c0 rfl
    rw [upd_ne (fun z => by rcases hb with rfl | rfl; exact n1 z; exact n2 z)]
    exact e
theorem pe_str_c {x : Str} {j : Nat} {pos : Pos} : PE X (.Constant (.str x) j pos) (L2.tC (.str x)) := L2.pe_str
theorem nosl_c {x : Str} {j : Nat} {pos : Pos} : L2.NoSl (.Constant (.str x) j pos) := fun _ _ => rfl
theorem de_sget (hu : X.A.units + 1 < cLine) {i : Nat} {x : Str} {f : Sf} {p p2 pos : Pos} {j : Nat} (hN : X.N[i]? = some x) (hv : Vis X.env.scope x) (hd : (x == ("__debug__" : Str)) = false) (hcd : (x == ("__classdict__" : Str)) = false) :
    DE X sa (.Subscript (.Name x p) (.Constant (.str (sfKey f)) j p2) pos) (eval Γ (.sget i f)) := by
  refine DE.val ((L2.pe_dget hu (pe_name hN hv hd hcd) pe_str_c nosl_c).wk fun σ H Q ⟨g, st, r, st', R, e, k⟩ => ?_) rfl
  simp only [eval] at e
  split at e
  · rename_i hs
    obtain ⟨s0, c0, t, rfl, h1, h2, h3⟩ := R.src_at hs
    rw [h2] at e
    cases e
    exact ⟨_, h1, s0, _, rfl, .inl ⟨_, kS (sfKey f), .inl h3.d, rfl, (val_fld f).symm⟩, k _ g H R .refl (.int _)⟩
  · cases e
theorem pe_cells (hu : X.A.units + 1 < cLine) {i : Nat} {x : Str} {p p2 pos : Pos} {j : Nat} (hN : X.N[i]? = some x) (hv : Vis X.env.scope x) (hd : (x == ("__debug__" : Str)) = false) (hcd : (x == ("__classdict__" : Str)) = false) :
    PE X (.Subscript (.Name x p) (.Constant (.str "cells") j p2) pos) (fun σ H Q => ∃ s0 c0 t g st, sa = some (s0, c0) ∧ SR sa g st σ H ∧ st.get i = .src ∧ SrcAt s0 c0 t g H ∧ Q (.ref c0) H) :=
  (L2.pe_dget hu (pe_name hN hv hd hcd) pe_str_c nosl_c).wk fun σ H Q ⟨s0, c0, t, g, st, e, R, hs, h3, q⟩ => by
    obtain ⟨s1, c1, t1, e', h1, h2, _⟩ := R.src_at hs
    rw [e] at e'
    cases e'
    exact ⟨_, h1, s0, _, rfl, .inl ⟨_, kS "cells", .inl h3.d, rfl, val_cells.symm⟩, q⟩
theorem de_slen (hu : X.A.units + 1 < cLine) {i : Nat} {x : Str} {p p2 p3 p4 pos : Pos} {j : Nat} (hg : Gl X "len") (hm : X.mg "len" = none) (hN : X.N[i]? = some x) (hv : Vis X.env.scope x) (hd : (x == ("__debug__" : Str)) = false) (hcd : (x == ("__classdict__" : Str)) = false) :
    DE X sa (.Call (.Name "len" p3) [.Subscript (.Name x p) (.Constant (.str "cells") j p2) p4] [] pos) (eval Γ (.slen i)) := by
  refine DE.val ((L2.pe_callB L2.call_len_seq hg hm (by decide +kernel) (L2.pa_cons (pe_cells (sa := sa) hu hN hv hd hcd) L2.pa_nil)).wk fun σ H Q ⟨g, st, r, st', R, e, k⟩ => ?_) rfl
  simp only [eval] at e
  split at e
  · rename_i hs
    obtain ⟨s0, c0, t, e1, h1, h2, h3⟩ := R.src_at hs
    rw [h2] at e
    cases e
    refine ⟨s0, c0, t, g, st, e1, R, hs, h3, c0, _, rfl, .inl (SqL.of h3.c), ?_⟩
    rw [List.length_map]
    exact k _ g H R .refl (.int _)
  · cases e
theorem de_spop (hu : X.A.units + 1 < cLine) {i : Nat} {x : Str} {p p2 p4 apos pos : Pos} {j : Nat} (hN : X.N[i]? = some x) (hv : Vis X.env.scope x) (hd : (x == ("__debug__" : Str)) = false) (hcd : (x == ("__classdict__" : Str)) = false) (hl : (apos.endLine == pos.line) = true) :
    DE X sa (.Call (.Attribute (.Subscript (.Name x p) (.Constant (.str "cells") j p2) p4) "pop" apos) [] [] pos) (eval Γ (.spop i)) := by
  refine DE.val ((L2.pe_bm0 PySem.F.plainAttrs_list PySem.F.slot_list_pop PySem.F.type_list_pop L2.mt_pop (pe_cells (sa := sa) hu hN hv hd hcd) rfl hl).wk fun σ H Q ⟨g, st, r, st', R, e, k⟩ => ?_) rfl
  simp only [eval] at e
  split at e
  · rename_i hs
    obtain ⟨s0, c0, t, e1, h1, h2, h3⟩ := R.src_at hs
    rw [h2] at e
    simp only [Option.bind_some, Option.map_eq_some_iff] at e
    obtain ⟨c, e2, e3⟩ := e
    cases e3
    subst e1
    have q' : SrcAt s0 c0 ⟨t.cells.dropLast, t.left, t.mixed, t.turn⟩ g (upd H c0 (.lst ((t.cells.map V.int).dropLast))) := by
      refine ⟨by rw [upd_ne h3.ne]; exact h3.d, ?_, h3.ne, h3.zs, h3.zc, h3.ws, h3.wc⟩
      rw [upd_same, List.map_dropLast]
    obtain ⟨R2, E2⟩ := R.srcUp h3 (.inr rfl) q'
    refine ⟨s0, c0, t, g, st, rfl, R, hs, h3, .inl ⟨rfl, _, SqL.of h3.c⟩, c0, _, .int c, rfl, rfl, h3.c, ?_, k _ g _ R2 E2 (.int _)⟩
    rw [List.length_map, List.getElem?_map, e2]
    rfl
  · cases e
theorem ds_sset (hu : X.A.units + 1 < cLine) {i : Nat} {x : Str} {f : Sf} {e : Expr} {c : Ex} {p p2 p3 pos : Pos} {j : Nat} (hN : X.N[i]? = some x) (hv : Vis X.env.scope x) (hd : (x == ("__debug__" : Str)) = false) (hcd : (x == ("__classdict__" : Str)) = false) (h : DE X sa e (eval Γ c))
    (hs : swapsWith e (some (.Subscript (.Name x p) (.Constant (.str (sfKey f)) j p2) p3)) pos.line X.env = pure false) : DS X sa (.Assign [.Subscript (.Name x p) (.Constant (.str (sfKey f)) j p2) p3] e pos) (exec Γ (.sset i f c)) := by
  refine (L2.ps_dput hu (pe_name hN hv hd hcd) pe_str_c h.pe hs).wk fun D σ H ⟨g, st, o, R, e, k⟩ => ?_
  simp only [exec, Option.bind_eq_some_iff] at e
  obtain ⟨⟨r, st1⟩, e1, e2⟩ := e
  dsimp only at e2
  split at e2
  rotate_left
  · cases e2
  rename_i n hsl
  simp only [Option.map_eq_some_iff] at e2
  obtain ⟨t, h2, e3⟩ := e2
  cases e3
  refine ⟨g, st, _, st1, R, e1, fun v g1 H1 R1 E1 O1 => ?_⟩
  have O1 : Dt g1.Z v (.int n) := O1
  cases O1
  obtain ⟨s0, c0, t', e4, h1, h2', h3⟩ := R1.src_at hsl
  rw [h2] at h2'
  cases h2'
  subst e4
  have q' : SrcAt s0 c0 (t.setf n f) g1 (upd H1 s0 (.dK (srcKvs c0 (t.setf n f)))) := by
    refine ⟨upd_same, ?_, h3.ne, h3.zs, h3.zc, h3.ws, h3.wc⟩
    rw [upd_ne (Ne.symm h3.ne), h3.c]
    cases f <;> rfl
  obtain ⟨R2, E2⟩ := R1.srcUp h3 (.inl rfl) q'
  refine ⟨_, h1, s0, _, rfl, .inl ⟨_, kS (sfKey f), h3.d, rfl, ?_, rfl⟩, ?_⟩
  · show 4 < sizeLine
    decide
  · rw [put_fld]
    exact k σ g1 _ R2 (E1.trans E2)
end
end Pf

set_option maxRecDepth 100000
/-! Pf9d: a, b[k], .. = x, y, .. : the tuple is made, its items are stored one by one. -/
namespace Pf
open PySem PySem.Spec PyProof.Rows
open L2 (V Hp HO upd upd_same upd_ne Same SqL SqT Dp DpAll Key Vals Cx Inv OpR R2 VK PE PT PA PS PSs PI PG PGs PTs PSet PGet PIp TE TT TA TS TI TG TGs TIp It Itl Itt Itr Ite Itz RelV EP Vis Loc Gl Room Env0 CE CallR tCB TyOf TyX wipe BlkOk Ends)
section
variable {X : Cx} {sa : SA} (Γ : Nat → Fn)
theorem KAll.ext {g g' : Gh} {H H' : Hp} (E : Ext sa g H g' H') : ∀ {vs : List V} {rs : List Rv} {H0 : Hp}, KAll sa H0 g H vs rs → KAll sa H0 g' H' vs rs
  | _, _, _, .nil => .nil
  | _, _, _, .dat h t => .dat (dtMono E.z _ h) (KAll.ext E t)
  | _, _, _, .lst h0 h1 h2 h3 h4 h5 m h6 t => by
    obtain ⟨e1, e2, e3⟩ := E.keep _ _ h1 h4 h5
    exact .lst h0 e1 (dtAllMono E.z _ h2) (e3 ntupL h3) e2 h5 m h6 (KAll.ext E t)
  | _, _, _, .dct h0 h1 h2 h3 h4 h5 m h6 t => by
    obtain ⟨e1, e2, e3⟩ := E.keep _ _ h1 h4 h5
    exact .dct h0 e1 (h2.mono E.z) (e3 h2.no h3) e2 h5 m h6 (KAll.ext E t)
theorem KAll.ice {g : Gh} {H : Hp} {p : Addr} {o : HO} (zz : Same g.Z (upd g.Z p o)) : ∀ {vs : List V} {rs : List Rv} {H0 : Hp}, KAll sa H0 g H vs rs → H0 p ≠ none → KAll sa H0 ⟨upd g.Z p o, g.w⟩ H vs rs
  | _, _, _, .nil, _ => .nil
  | _, _, _, .dat h t, e => .dat (dtMono zz _ h) (KAll.ice zz t e)
  | _, _, _, .lst h0 h1 h2 h3 h4 h5 m h6 t, e => by
    refine .lst h0 h1 (dtAllMono zz _ h2) ?_ h4 h5 m h6 (KAll.ice zz t (m _ e))
    show upd g.Z p o _ = none
    rw [upd_ne (fun z => by rw [z] at h0; exact e h0)]
    exact h3
  | _, _, _, .dct h0 h1 h2 h3 h4 h5 m h6 t, e => by
    refine .dct h0 h1 (h2.mono zz) ?_ h4 h5 m h6 (KAll.ice zz t (m _ e))
    show upd g.Z p o _ = none
    rw [upd_ne (fun z => by rw [z] at h0; exact e h0)]
    exact h3
theorem KAll.len {g : Gh} {H : Hp} : ∀ {vs : List V} {rs : List Rv} {H0 : Hp}, KAll sa H0 g H vs rs → vs.length = rs.length
  | _, _, _, .nil => rfl
  | _, _, _, .dat _ t => congrArg (· + 1) (KAll.len t)
  | _, _, _, .lst _ _ _ _ _ _ _ _ t => congrArg (· + 1) (KAll.len t)
  | _, _, _, .dct _ _ _ _ _ _ _ _ t => congrArg (· + 1) (KAll.len t)
/-- the text of a store's place -/
inductive DX (X : Cx) (sa : SA) : Expr → Tgx → Prop
  | nm {i : Nat} {x : Str} {pos : Pos} : X.N.Nodup → X.N[i]? = some x → Loc X.env.scope x → (X.fn x = true ∨ X.env.scope.names.lookup x = some .local) → DX X sa (.Name x pos) (.nm i)
  | ix {i : Nat} {x : Str} {b : Expr} {cb : Ex} {p p2 : Pos} : X.N[i]? = some x → Vis X.env.scope x → (x == ("__debug__" : Str)) = false → (x == ("__classdict__" : Str)) = false → DE X sa b (eval Γ cb) →
      (∀ v, assign (.Subscript (.Name x p) b p2) X.env v = (do
        let ov ← holding [v] (PySem.eval (.Name x p) X.env)
        let iv ← holding [v, ov] (PySem.eval b X.env)
        standAt p2
        holding [v, ov, iv] (setItem ov iv v)
        release [v, ov, iv] [])) → DX X sa (.Subscript (.Name x p) b p2) (.ix i cb)
def gXs (sa : SA) (ts : List Tgx) : TGs := fun vs σ H Q => ∃ g0 H0 g st rs st', SR sa g st σ H ∧ Ext sa g0 H0 g H ∧ KAll sa H0 g H vs rs ∧ storesX Γ ts rs st = some st' ∧ ∀ σ' g' H', SR sa g' st' σ' H' → Ext sa g0 H0 g' H' → Q σ' H'
inductive DXs (X : Cx) (sa : SA) : List Expr → List Tgx → Prop
  | nil : DXs X sa [] []
  | cons {e : Expr} {t : Tgx} {es : List Expr} {ts : List Tgx} : DX Γ X sa e t → DXs X sa es ts → DXs X sa (e :: es) (t :: ts)
theorem dx_ok {e : Expr} {t : Tgx} (h : DX Γ X sa e t) : okT e = true := by
  cases h <;> rfl
theorem dxs_each : ∀ {es : List Expr} {ts : List Tgx}, DXs Γ X sa es ts → (assignEach es X.env).length = ts.length ∧ (assignEach es X.env).findIdx? (·.1) = none
  | _, _, .nil => ⟨rfl, rfl⟩
  | e :: es, t :: ts, .cons h hs => by
    obtain ⟨h1, h2⟩ := dxs_each hs
    rw [assignEach_ok (dx_ok Γ h)]
    exact ⟨by rw [List.length_cons, List.length_cons, h1], by rw [List.findIdx?_cons, h2]; rfl⟩
theorem pgs_X (hu : X.A.units + 1 < cLine) : ∀ {es : List Expr} {ts : List Tgx}, DXs Γ X sa es ts → PGs X es (gXs Γ sa ts)
  | _, _, .nil => L2.pgs_nil.wk fun vs σ H Q ⟨g0, H0, g, st, rs, st', R, E, K, e, k⟩ => by
    cases K with
    | nil =>
      simp only [storesX, Option.some.injEq] at e
      subst e
      exact ⟨rfl, k σ g H R E⟩
    | dat _ _ => simp only [storesX] at e; cases e
    | lst _ _ _ _ _ _ _ _ _ => simp only [storesX] at e; cases e
    | dct _ _ _ _ _ _ _ _ _ => simp only [storesX] at e; cases e
  | e :: es, t :: ts, .cons h hs => by
    have ih := pgs_X hu hs
    have each : (assignEach (e :: es) X.env).map (·.2) = assign e X.env :: (assignEach es X.env).map (·.2) := by
      rw [assignEach_ok (dx_ok Γ h)]; rfl
    cases h with
    | nm hN hi hx hf =>
      refine (L2.pgs_cons (L2.pg_name hN hi hx hf) ih each).wk fun vs σ H Q ⟨g0, H0, g, st, rs, st', R, E, K, e, k⟩ => ?_
      cases K with
      | nil => simp only [storesX] at e; cases e
      | dat h t =>
        simp only [storesX, storeX, keep, Option.bind_some] at e
        exact ⟨_, _, rfl, g0, H0, g, _, _, st', R.bind h, E, t, e, k⟩
      | lst h0 h1 h2 h3 h4 h5 m h6 t =>
        simp only [storesX, storeX, keep, Option.bind_some] at e
        exact ⟨_, _, rfl, g0, H0, _, _, _, st', R.adopt h1 h2 h3 h4 h5, E.own h0, (t.own h6).weak m, e, k⟩
      | dct h0 h1 h2 h3 h4 h5 m h6 t =>
        simp only [storesX, storeX, keep, Option.bind_some] at e
        exact ⟨_, _, rfl, g0, H0, _, _, _, st', R.adoptD h1 h2 h3 h4 h5, E.own h0, (t.own h6).weak m, e, k⟩
    | ix hN hv hd hcd hb ha =>
      refine (L2.pgs_cons (setAt_ok Γ hu hN hv hd hcd hb ha) ih each).wk fun vs σ H Q ⟨g0, H0, g, st, rs, st', R, E, K, e, k⟩ => ?_
      cases K with
      | nil => simp only [storesX] at e; cases e
      | dat h t =>
        simp only [storesX, storeX, frz, Option.bind_eq_some_iff] at e
        obtain ⟨st1, ⟨q, e1, e2⟩, e3⟩ := e
        cases e1
        exact ⟨_, _, rfl, g, st, _, st1, R, h, e2, fun g' H' R' E' => ⟨g0, H0, g', st1, _, st', R', E.trans E', t.ext E', e3, k⟩⟩
      | @lst _ H1 _ _ p us vs xs rs h0 h1 h2 h3 h4 h5 m h6 t =>
        simp only [storesX, storeX, frz, Option.bind_eq_some_iff] at e
        obtain ⟨st1, ⟨q, e1, e2⟩, e3⟩ := e
        cases e1
        obtain ⟨R1, zz⟩ := R.ice h1 h4 h3 h5
        have E1 : Ext sa g0 H0 ⟨upd g.Z p (.lst us), g.w⟩ H := by
          refine ⟨E.z.trans zz, fun a o q n s => ?_, E.there⟩
          obtain ⟨e1, e2, e3⟩ := E.keep a o q n s
          refine ⟨e1, e2, fun t z => ?_⟩
          show upd g.Z p (.lst us) a = none
          rw [upd_ne (fun e => by rw [e, h0] at q; cases q)]
          exact e3 t z
        exact ⟨_, _, rfl, _, st, _, st1, R1, .lst upd_same (dtAllMono zz _ h2), e2, fun g' H' R' E' => ⟨g0, H0, g', st1, _, st', R', E1.trans E', ((KAll.ice zz t h6).ext E').weak m, e3, k⟩⟩
      | @dct _ H1 _ _ p o vs T kvs rs h0 h1 h2 h3 h4 h5 m h6 t =>
        simp only [storesX, storeX, frz, Option.bind_eq_some_iff] at e
        obtain ⟨st1, ⟨q, e1, e2⟩, e3⟩ := e
        cases e1
        obtain ⟨R1, zz⟩ := R.iceO (p := p) (o := dz o) ⟨(fun q => absurd (show true = false from q) (by decide)), (fun p' u q => by unfold dz at q; cases q; exact ⟨.inl h1, h2.no⟩)⟩ h4 h3 h5
        have E1 : Ext sa g0 H0 ⟨upd g.Z p (dz o), g.w⟩ H := by
          refine ⟨E.z.trans zz, fun a o' q n s => ?_, E.there⟩
          obtain ⟨e1, e2, e3⟩ := E.keep a o' q n s
          refine ⟨e1, e2, fun t z => ?_⟩
          show upd g.Z p (dz o) a = none
          rw [upd_ne (fun e => by rw [e, h0] at q; cases q)]
          exact e3 t z
        exact ⟨_, _, rfl, _, st, _, st1, R1, (h2.mono zz).dt upd_same, e2, fun g' H' R' E' => ⟨g0, H0, g', st1, _, st', R', E1.trans E', ((KAll.ice zz t h6).ext E').weak m, e3, k⟩⟩
theorem ds_asgX (hu : X.A.units + 1 < cLine) (hc : X.calm = true) {es ts : List Expr} {tgs : List Tgx} {cs : Exs} {k k2 : Nat} {pt pt2 pos : Pos} (hg : DXs Γ X sa ts tgs) (h : DK X sa es (evalk Γ cs)) (hw : swappedStores [.Tuple ts k pt] (.Tuple es k2 pt2) X.env = pure none) :
    DS X sa (.Assign [.Tuple ts k pt] (.Tuple es k2 pt2) pos) (exec Γ (.asgX tgs cs)) := by
  obtain ⟨e1, e2⟩ := dxs_each Γ hg
  refine (L2.ps_asg (L2.pe_tup h.pa) (L2.pg_tup hc (pgs_X Γ hu hg) e1 e2) rfl hw rfl).wk fun D σ H ⟨g, st, o, R, e, kk⟩ => ?_
  simp only [exec, Option.bind_eq_some_iff] at e
  obtain ⟨⟨rs, st1⟩, e3, e4⟩ := e
  dsimp only at e4
  split at e4
  rotate_left
  · cases e4
  rename_i hl
  simp only [Option.map_eq_some_iff] at e4
  obtain ⟨st2, e5, e6⟩ := e4
  cases e6
  refine ⟨g, st, rs, st1, R, e3, fun vs g1 H1 R1 E1 K1 => ⟨by rw [K1.len]; exact hl, fun p hp => ?_⟩⟩
  obtain ⟨R2, E2, zp, wp, np⟩ := R1.new (o := .tup vs) hp
  have hlen : ∀ {rs : List Rv} {ts : List Tgx} {st st' : St}, storesX Γ ts rs st = some st' → rs.length = ts.length := by
    intro rs
    induction rs with
    | nil =>
      intro ts st st' e
      cases ts with
      | nil => rfl
      | cons t ts => simp only [storesX] at e; cases e
    | cons r rs ih =>
      intro ts st st' e
      cases ts with
      | nil => simp only [storesX] at e; cases e
      | cons t ts =>
        simp only [storesX, Option.bind_eq_some_iff] at e
        obtain ⟨_, _, e⟩ := e
        rw [List.length_cons, List.length_cons, ih e]
  exact ⟨p, vs, rfl, SqT.of upd_same, by rw [K1.len, hlen e5], g, H, g1, st1, rs, st2, R2, E1.trans E2, K1.ext E2, e5, fun σ' g' H' R' E' => kk σ' g' H' R' E'⟩
end
end Pf

set_option maxRecDepth 100000
/-! Pf9e: dicts: {}, {k: v}, d.get(k, x), dict(d). -/
namespace Pf
open PySem PySem.Spec PyProof.Rows
open L2 (V Hp HO upd upd_same upd_ne Same SqL SqT Dp DpAll Key Vals Cx Inv OpR R2 VK PE PT PA PS PSs PI PG PGs PTs PSet PGet PIp TE TT TA TS TI TG TGs TIp It Itl Itt Itr Ite Itz RelV EP Vis Loc Gl Room Env0 CE CallR tCB TyOf TyX wipe BlkOk Ends)
section
variable {X : Cx} {sa : SA} (Γ : Nat → Fn)
/-- a new dict as a result -/
theorem newDct {g : Gh} {st : St} {σ : L2.St} {H : Hp} {T : Bool} {o : HO} {kvs : List (D × D)} {p : Addr} {Q : VK} (R : SR sa g st σ H) (hp : H p = none) (h : DkOk g.Z T o kvs) (k : Post sa g st σ H (.dct T kvs) Q) : Q (.ref p) (upd H p o) := by
  obtain ⟨R2, E2, zp, wp, np⟩ := R.new (o := o) hp
  exact k _ _ _ R2 E2 ⟨p, o, rfl, hp, upd_same, h, zp, wp, np⟩
theorem de_dnewK {pos : Pos} : DE X sa (.Dict [] [] pos) (eval Γ (.dnew false)) :=
  DE.val (L2.pe_dnewK.wk fun σ H Q ⟨g, st, r, st', R, e, k⟩ => by
    simp only [eval, Option.some.injEq, Prod.mk.injEq] at e
    obtain ⟨rfl, rfl⟩ := e
    exact fun p hp => newDct R hp (.k (kvs := []) .nil) k) rfl
theorem de_dnewT {pos : Pos} : DE X sa (.Dict [] [] pos) (eval Γ (.dnew true)) :=
  DE.val (L2.pe_dnewT.wk fun σ H Q ⟨g, st, r, st', R, e, k⟩ => by
    simp only [eval, Option.some.injEq, Prod.mk.injEq] at e
    obtain ⟨rfl, rfl⟩ := e
    exact fun p hp => newDct R hp (.t (kvs := []) .nil) k) rfl
theorem de_ddisp {k v : Expr} {ck cv : Ex} {pos : Pos} (hk : DE X sa k (eval Γ ck)) (hv : DE X sa v (eval Γ cv)) : DE X sa (.Dict [some k] [v] pos) (eval Γ (.ddisp ck cv)) := by
  refine DE.val ((L2.pe_disp (L2.pps_cons hk.pe hv.pe L2.pps_nil) rfl rfl (fun z => by cases z) (by show 1 ≤ 15; decide)).wk fun σ H Q ⟨g, st, r, st', R, e, q⟩ => ?_) rfl
  simp only [eval, Option.bind_eq_some_iff] at e
  obtain ⟨⟨r1, st1⟩, e1, ⟨d1, st2⟩, e2, ⟨r3, st3⟩, e3, ⟨d4, st4⟩, e4, e5⟩ := e
  dsimp only at e5
  split at e5
  rotate_left
  · cases e5
  rename_i hl
  cases e5
  intro p hp
  obtain ⟨R0, E0, zp, wp, np⟩ := R.new (o := .dK []) hp
  refine ⟨g, st, r1, st1, R0, e1, fun x g1 H1 R1 E1 O1 => ?_⟩
  obtain ⟨g2, R2, E2, z2, O2⟩ := frz_ok R1 E1 O1 e2
  refine ⟨g2, st2, r3, st3, R2, e3, fun y g3 H3 R3 E3 O3 => ?_⟩
  obtain ⟨g4, R4, E4, z4, O4⟩ := frz_ok R3 E3 O3 e4
  have EE := E2.trans E4
  obtain ⟨e6, e7, e8⟩ := EE.keep p _ upd_same wp np
  obtain ⟨q1, rfl, rfl⟩ := key_dt (dtMono E4.z _ O2) hl
  refine ⟨e6, [(q1, y)], rfl, by show 1 ≤ 15; decide, ?_⟩
  have hz4 : g4.Z p = none := e8 ntupK zp
  -- the dict is written at its place
  have R5 : SR sa g4 st' σ (upd H3 p (.dK [(q1, y)])) := R4.upd e6 hz4 e7 np
  have E5 : Ext sa g H g4 (upd H3 p (.dK [(q1, y)])) := (E0.trans EE).upd hp
  exact q _ _ _ R5 E5 ⟨p, _, rfl, hp, upd_same, .k (kvs := [(q1, y)]) (.cons O4 .nil), hz4, e7, np⟩
theorem de_get2 (hu : X.A.units + 1 < cLine) {x : Str} {i : Nat} {k d : Expr} {ck cd : Ex} {p apos cpos : Pos} (hN : X.N[i]? = some x) (hv : Vis X.env.scope x) (hd : (x == ("__debug__" : Str)) = false) (hcd : (x == ("__classdict__" : Str)) = false) (hl : (apos.endLine == cpos.line) = true)
    (hk : DE X sa k (eval Γ ck)) (hx : DE X sa d (eval Γ cd)) : DE X sa (.Call (.Attribute (.Name x p) "get" apos) [k, d] [] cpos) (eval Γ (.get2 (.var i) ck cd)) := by
  have s1 := starEach_ok (es := [d]) (env := X.env) hk.ok
  have s2 := starEach_ok (es := []) (env := X.env) hx.ok
  have hm : L2.M2 X (.Name x p) "get" apos k d cpos := by
    refine ⟨rfl, ?_, hl, ?_⟩
    · rw [s1, s2]; rfl
    · rw [s1, s2]; rfl
  refine DE.val ((L2.pe_dget2 hu (pe_name hN hv hd hcd) hk.pe hx.pe hm).wk fun σ H Q ⟨g, st, r, st', R, e, q⟩ => ?_) rfl
  simp only [eval, Option.bind_eq_some_iff] at e
  obtain ⟨⟨r1, st1⟩, e1, e⟩ := e
  dsimp only at e
  split at e
  rotate_left
  · cases e
  rename_i hD
  simp only [Option.bind_eq_some_iff] at e
  obtain ⟨⟨r2, st2⟩, e2, ⟨r3, st3⟩, e3, dx, e4, dy, e5, e6⟩ := e
  dsimp only at e6
  split at e6
  rotate_left
  · cases e6
  rename_i z
  simp only [Option.bind_eq_some_iff] at e6
  obtain ⟨w, e7, e8⟩ := e6
  split at e8
  rotate_left
  · cases e8
  rename_i hk'
  cases e8
  have e1' : eval Γ (.var i) st = some (r1, st1) := by simp only [eval]; exact e1
  obtain ⟨v, hv1, hO⟩ : ∃ v, σ[i]? = some (some v) ∧ ∃ g1, SR sa g1 st1 σ H ∧ Ext sa g H g1 H ∧ RvOk sa H g1 σ H v r1 := by
    have s := R.slot i
    cases q : st.get i with
    | un => rw [q] at e1; cases e1
    | dat d' =>
      rw [q] at e1 s
      cases e1
      obtain ⟨v, e1, r⟩ := s
      exact ⟨v, e1, g, R, .refl, r⟩
    | src =>
      rw [q] at e1 s
      cases e1
      obtain ⟨s0, c0, e1, e2⟩ := s
      exact ⟨_, e2, g, R, .refl, ⟨s0, c0, e1, rfl⟩⟩
    | lst xs =>
      rw [q] at e1 s
      cases e1
      obtain ⟨a, vs, e1, h1, h2, h3, h4⟩ := s
      exact ⟨_, e1, g, R, .refl, e1⟩
    | dct T kvs =>
      rw [q] at e1 s
      cases e1
      obtain ⟨a, o, e1, h1, h2, h3, h4⟩ := s
      exact ⟨_, e1, g, R, .refl, e1⟩
  obtain ⟨g1, R1, E1, O1⟩ := hO
  refine ⟨v, hv1, ?_⟩
  obtain ⟨d1, h1⟩ : ∃ d1, res st1 r1 = some d1 ∧ (dctOf d1).isSome = true := by
    unfold isDctO at hD
    split at hD
    · exact ⟨_, by assumption, hD⟩
    · cases hD
  obtain ⟨q1, h2⟩ := Option.isSome_iff_exists.mp h1.2
  have V1 := O1.vw R1 h1.1
  rw [dctOf_is h2] at V1
  obtain ⟨a, o, rfl, rd, dk⟩ := V1.dct R1.sub
  refine ⟨a, rfl, ?_, g1, st1, r2, st2, R1, e2, fun u g2 H2 R2 E2 O2 => ⟨g2, st2, _, _, R2, e3, fun zv g3 H3 R3 E3 O3 => ?_⟩⟩
  · generalize q1.1 = T1 at dk
    generalize q1.2 = K1 at dk
    cases dk with
    | k _ => exact .inl ⟨_, rd⟩
    | t _ => exact .inr ⟨_, rd⟩
  · have V3 := ((O1.ext E2).ext E3).vw R3 e4
    rw [dctOf_is e7] at V3
    obtain ⟨a', o', ea, rd', dk'⟩ := V3.dct R3.sub
    cases ea
    have V2 := (O2.ext E3).vw R3 e5
    obtain ⟨r, g1', g2', _⟩ := dget_of R3.sub dk' rd' (V2.key hk') hk'
    have O3 : Dt g3.Z zv z := O3
    refine ⟨r, g1', ?_⟩
    rcases g2' with ⟨w', e, rfl, f1, f2⟩ | ⟨rfl, f1⟩
    · exact q _ g3 H3 R3 (E1.trans (E2.trans E3)) (by rw [f1]; exact f2)
    · exact q _ g3 H3 R3 (E1.trans (E2.trans E3)) (by rw [f1]; exact O3)
/-- dict(d) -/
def rCopyD : List V → Hp → VK → Prop := fun xs H Q => ∃ a kvs, xs = [.ref a] ∧ L2.Rd H a (.dK kvs) ∧ ∀ p, H p = none → Q (.ref p) (upd H p (.dK kvs))
theorem call_copyD : CallR X (.type "dict") rCopyD := by
  intro pins s σ H xs us Q I r h
  obtain ⟨a, kvs, rfl, rd, q⟩ := h
  cases r with
  | cons r rr =>
    cases rr
    cases r
    exact L2.d_copyOf I rd fun p s' hp I' => ⟨.ref p, _, I', rfl, q p hp⟩
/-- entries stored one by one, on both sides -/
theorem fold_both {Z : Hp} {κ : Type} [DecidableEq κ] {kd : κ → D} (hk : ∀ a b, PyData.eqv (kd a) (kd b) = decide (a = b)) : ∀ {more : List (κ × V)} {es' : List D} {acc : List (κ × V)} {es : List D}, DtAll Z (more.map Prod.snd) es' → DtAll Z (acc.map Prod.snd) es →
    ∃ es'', DtAll Z ((more.foldl (fun acc kv => L2.putK acc kv.1 kv.2) acc).map Prod.snd) es'' ∧
      ((more.map fun p => kd p.1).zip es').foldl (fun acc p => dput acc p.1 p.2) ((acc.map fun p => kd p.1).zip es) = ((more.foldl (fun acc kv => L2.putK acc kv.1 kv.2) acc).map fun p => kd p.1).zip es''
  | [], _, acc, es, _, h => ⟨es, h, rfl⟩
  | kv :: r, _, acc, es, .cons h1 h2, h => by
    obtain ⟨es1, q1, q2⟩ := put_both hk (k := kv.1) h h1
    obtain ⟨es2, q3, q4⟩ := fold_both hk h2 q1
    refine ⟨es2, q3, ?_⟩
    simp only [List.map_cons, List.zip_cons_cons, List.foldl_cons]
    rw [q2]
    exact q4
/-- a list of pairs, the keys plain -/
theorem pairsK_of {Z H : Hp} {K : PySem.W.Frag} (S : Sub Z H) : ∀ {vs : List V} {ds : List D} {ps : List (D × D)}, DtAll Z vs ds → pairsOf ds = some ps → (ps.all fun p => keyOk false p.1) = true →
    ∃ (as : List Addr) (kvs : List (Key × V)) (es : List D), vs = as.map V.ref ∧ Paired (fun p (kv : Key × V) => SqT K H p [L2.kV kv.1, kv.2]) as kvs ∧ DtAll Z (kvs.map Prod.snd) es ∧ ps = (kvs.map fun p => keyD p.1).zip es
  | _, _, ps, .nil, e, _ => by
    simp only [pairsOf, Option.some.injEq] at e
    subst e
    exact ⟨[], [], [], rfl, .nil, .nil, rfl⟩
  | _, _, ps, .cons (d := d) h1 h2, e, hk => by
    unfold pairsOf at e
    split at e
    · rename_i z; cases z
    · rename_i k v r z
      cases z
      simp only [Option.map_eq_some_iff] at e
      obtain ⟨ps', e1, rfl⟩ := e
      simp only [List.all_cons, Bool.and_eq_true] at hk
      obtain ⟨as, kvs, es, rfl, q1, q2, rfl⟩ := pairsK_of (K := K) S h2 e1 hk.2
      cases h1 with
      | tup z1 z2 =>
        cases z2 with
        | cons y1 y2 =>
          cases y2 with
          | cons y2 y3 =>
            cases y3
            obtain ⟨q, rfl, rfl⟩ := key_dt y1 hk.1
            exact ⟨_ :: as, (q, _) :: kvs, _ :: es, rfl, .cons (SqT.of (S.at z1)) q1, .cons y2 q2, rfl⟩
    · cases e
/-- .. the keys tuples -/
theorem pairsT_of {Z H : Hp} {K : PySem.W.Frag} (S : Sub Z H) : ∀ {vs : List V} {ds : List D} {ps : List (D × D)}, DtAll Z vs ds → pairsOf ds = some ps → (ps.all fun p => keyOk true p.1) = true →
    ∃ (as : List Addr) (kvs : List (List Key × V)) (es : List D), vs = as.map V.ref ∧ Paired (fun p (kv : List Key × V) => ∃ q, SqT K H p [.ref q, kv.2] ∧ H q = some (.tup (kv.1.map L2.kV))) as kvs ∧ DtAll Z (kvs.map Prod.snd) es ∧ ps = (kvs.map fun p => keysD p.1).zip es
  | _, _, ps, .nil, e, _ => by
    simp only [pairsOf, Option.some.injEq] at e
    subst e
    exact ⟨[], [], [], rfl, .nil, .nil, rfl⟩
  | _, _, ps, .cons (d := d) h1 h2, e, hk => by
    unfold pairsOf at e
    split at e
    · rename_i z; cases z
    · rename_i k v r z
      cases z
      simp only [Option.map_eq_some_iff] at e
      obtain ⟨ps', e1, rfl⟩ := e
      simp only [List.all_cons, Bool.and_eq_true] at hk
      obtain ⟨as, kvs, es, rfl, q1, q2, rfl⟩ := pairsT_of (K := K) S h2 e1 hk.2
      cases h1 with
      | tup z1 z2 =>
        cases z2 with
        | cons y1 y2 =>
          cases y2 with
          | cons y2 y3 =>
            cases y3
            have hk1 := hk.1
            cases y1 with
            | tup w1 w2 =>
              obtain ⟨ks, rfl, rfl⟩ := keys_dt w2 (by simpa [keyOk] using hk1)
              exact ⟨_ :: as, (ks, _) :: kvs, _ :: es, rfl, .cons ⟨_, SqT.of (S.at z1), S.at w1⟩ q1, .cons y2 q2, rfl⟩
            | _ => first | (cases hk1; done) | (simp [dctD, keyOk] at hk1)
    · cases e
def rDict (K : PySem.W.Frag) : List V → Hp → VK → Prop := fun xs H Q => (∃ (a : Addr) (ps : List Addr) (kvs : List (Key × V)), xs = [.ref a] ∧ SqL K H a (ps.map V.ref) ∧ Paired (fun p kv => SqT K H p [L2.kV kv.1, kv.2]) ps kvs ∧
    ∀ p, H p = none → Q (.ref p) (upd H p (.dK (L2.mergeK [] kvs)))) ∨ L2.rDictPT K xs H Q ∨ rCopyD xs H Q
theorem call_dict (hc : X.calm = true) (hu : X.A.units + 70 < cLine) : CallR X (.type "dict") (rDict X.K) := fun pins s σ H xs us Q I r h => by
  rcases h with h | h | h
  · exact L2.call_dictP hc pins s σ H xs us Q I r h
  · exact L2.call_dictPT hc hu pins s σ H xs us Q I r h
  · exact call_copyD pins s σ H xs us Q I r h
theorem serves_dict {T : Bool} : ServesB X (.dict T) (fun x => x) (rDict X.K) := by
  intro sa g st σ H xs ds r Q R h e k
  obtain ⟨d, rfl, ee⟩ := ev1_some (f := bDict T) e
  have e := ee
  obtain ⟨x, rfl, hh⟩ := h.one
  have h := hh
  unfold bDict at e
  split at e
  · simp only [Option.bind_eq_some_iff] at e
    obtain ⟨ps, e1, e2⟩ := e
    split at e2
    · rename_i hk
      cases e2
      obtain ⟨a, vs, rfl, h1, h2⟩ := h.lst R.sub
      cases T with
      | false =>
        obtain ⟨as, kvs, es, rfl, q1, q2, rfl⟩ := pairsK_of (K := X.K) R.sub h2 e1 hk
        obtain ⟨es', q3, q4⟩ := fold_both (acc := []) (es := []) eqv_key q2 .nil
        refine .inl ⟨a, as, kvs, rfl, SqL.of h1, q1, fun p hp => newDct R hp ?_ k⟩
        have q4 : ((kvs.map fun p => keyD p.1).zip es).foldl (fun acc p => dput acc p.1 p.2) [] = _ := q4
        rw [q4]
        exact .k q3
      | true =>
        obtain ⟨as, kvs, es, rfl, q1, q2, rfl⟩ := pairsT_of (K := X.K) R.sub h2 e1 hk
        obtain ⟨es', q3, q4⟩ := fold_both (acc := []) (es := []) (kd := keysD) eqv_keys q2 .nil
        refine .inr (.inl ⟨a, as, kvs, rfl, SqL.of h1, q1, fun p hp => newDct R hp ?_ k⟩)
        have q4 : ((kvs.map fun p => keysD p.1).zip es).foldl (fun acc p => dput acc p.1 p.2) [] = _ := q4
        rw [q4]
        exact .t q3
    · cases e2
  · simp only [Option.bind_eq_some_iff] at e
    obtain ⟨⟨T', kvs⟩, e1, e2⟩ := e
    rw [dctOf_is e1] at h
    cases T' with
    | true => cases e2
    | false =>
      cases e2
      obtain ⟨a, o, rfl, rd, dk⟩ := h.dct R.sub
      dsimp only at dk k
      cases dk with
      | k hh => exact .inr (.inr ⟨a, _, rfl, rd, fun p hp => newDct R hp (.k hh) k⟩)
  · cases e
end
end Pf

set_option maxRecDepth 100000
/-! Pf9f: a dict is walked (locked meanwhile). -/
namespace Pf
open PySem PySem.Spec PyProof.Rows
open L2 (V Hp HO upd upd_same upd_ne Same SqL SqT Dp DpAll Key Vals Cx Inv OpR R2 VK PE PT PA PS PSs PI PG PGs PTs TE TT TA TS TI TG TGs It Itk Itkt Iti RelV EP Vis Loc Gl Room Env0 CE CallR tCB TyOf TyX wipe BlkOk Ends kV Mut tLock tLockE iKeys iItems)
section
variable {Z : Hp}
theorem yl_keys {d : Addr} {o : Obj} {kvs : List (Key × V)} {es : List D} (h : DtAll Z (kvs.map Prod.snd) es) : Yields (Itk d o kvs) [(d, .frz o (.dK kvs))] Z (((kvs.map fun p => keyD p.1).zip es).map (·.1)) where
  go := fun i H S L hi => ⟨L _ (List.mem_singleton.mpr rfl), by have := len_both (kd := keyD) h; simpa [this] using hi⟩
  stop := fun H S L => ⟨L _ (List.mem_singleton.mpr rfl), by have := len_both (kd := keyD) h; simp [this]⟩
  yld := fun i H v H' S L hi y => by
    obtain ⟨rfl, k, w, e, rfl⟩ := y
    have hl := h.len
    rw [List.length_map] at hl
    have hi' : i < kvs.length := (List.getElem?_eq_some_iff.mp e).1
    refine ⟨keyD k, ?_, .inl ⟨rfl, ?_⟩⟩
    · rw [List.map_fst_zip (by simp [hl])]
      simp [e]
    · cases k with
      | inl j => exact .int j
      | inr x => exact .str x
theorem yl_keysT {d : Addr} {o : Obj} {kvs : List (List Key × V)} {es : List D} (h : DtAll Z (kvs.map Prod.snd) es) : Yields (Itkt d o kvs) [(d, .frz o (.dT kvs))] Z (((kvs.map fun p => keysD p.1).zip es).map (·.1)) where
  go := fun i H S L hi => ⟨L _ (List.mem_singleton.mpr rfl), by have := len_both (kd := keysD) h; simpa [this] using hi⟩
  stop := fun H S L => ⟨L _ (List.mem_singleton.mpr rfl), by have := len_both (kd := keysD) h; simp [this]⟩
  yld := fun i H v H' S L hi y => by
    obtain ⟨rfl, k, w, q, e, rfl, ht⟩ := y
    have hl := h.len
    rw [List.length_map] at hl
    have hi' : i < kvs.length := (List.getElem?_eq_some_iff.mp e).1
    refine ⟨keysD k, ?_, .inr (.inr ⟨q, _, _, rfl, ht, rfl, rfl, keys_dtAll k⟩)⟩
    rw [List.map_fst_zip (by simp [hl])]
    simp [e]
theorem yl_items {d : Addr} {o : Obj} {kvs : List (Key × V)} {es : List D} (h : DtAll Z (kvs.map Prod.snd) es) : Yields (Iti d o kvs) [(d, .frz o (.dK kvs))] Z (((kvs.map fun p => keyD p.1).zip es).map fun p => .tuple [p.1, p.2]) where
  go := fun i H S L hi => ⟨L _ (List.mem_singleton.mpr rfl), by have := len_both (kd := keyD) h; simpa [this] using hi⟩
  stop := fun H S L => ⟨L _ (List.mem_singleton.mpr rfl), by have := len_both (kd := keyD) h; simp [this]⟩
  yld := fun i H v H' S L hi y => by
    obtain ⟨T, k, w, e, rfl, hT, rfl⟩ := y
    have e2 : (kvs.map Prod.snd)[i]? = some w := by simp [e]
    obtain ⟨d', e3, r⟩ := h.get' e2
    have e4 : (kvs.map fun p => keyD p.1)[i]? = some (keyD k) := by simp [e]
    have e5 := (List.getElem?_zip_eq_some (z := (keyD k, d'))).mpr ⟨e4, e3⟩
    refine ⟨.tuple [keyD k, d'], by rw [List.getElem?_map, e5]; rfl, .inr (.inl ⟨T, _, _, rfl, hT, rfl, rfl, .cons ?_ (.cons r .nil)⟩)⟩
    cases k with
    | inl j => exact .int j
    | inr x => exact .str x
end
section
variable {X : Cx} {sa : SA} (Γ : Nat → Fn)
theorem DkOk.mut {Z : Hp} {T : Bool} {o : HO} {kvs : List (D × D)} (h : DkOk Z T o kvs) : Mut (some o) := by
  cases h <;> trivial
/-- the locked dict's facts -/
theorem SR.dzAt {g : Gh} {st : St} {σ : L2.St} {H : Hp} {a : Addr} {u : HO} (R : SR sa g st σ H) (hz : g.Z a = some (dz u)) : L2.Rd H a u ∧ (∀ vs, u ≠ .tup vs) ∧ g.w a = none ∧ NotSrc sa a := by
  obtain ⟨h1, h2⟩ := (R.sub a _ hz).2 _ _ rfl
  refine ⟨h1, h2, ?_, fun s0 c0 hsa => ?_⟩
  · cases q : g.w a with
    | none => rfl
    | some j =>
      have := (R.own a j q).1
      rw [hz] at this
      cases this
  · obtain ⟨t, _, k⟩ := R.src.at hsa
    exact ⟨fun z => (by rw [z, k.zs] at hz; cases hz), fun z => (by rw [z, k.zc] at hz; cases hz)⟩
/-- the dict is locked or let free -/
theorem SR.relay {g : Gh} {st : St} {σ : L2.St} {H : Hp} {a : Addr} {u o' : HO} (R : SR sa g st σ H) (hz : g.Z a = some (dz u)) (h : o' = u ∨ ∃ x, o' = .frz x u) : SR sa g st σ (L2.upd H a o') := by
  obtain ⟨r, nt, w, ns⟩ := R.dzAt hz
  refine ⟨fun b o q => ?_, fun b j q => ⟨(R.own b j q).1, ?_⟩, R.len, fun j => (R.slot j).mono (Same.refl _) fun b us q1 q2 => ⟨?_, q2⟩, ?_⟩
  · by_cases e : b = a
    · subst e
      rw [hz] at q
      cases q
      refine ⟨fun z => absurd (show true = false from z) (by decide), fun p v z => ?_⟩
      cases z
      refine ⟨?_, nt⟩
      rcases h with rfl | ⟨x, rfl⟩
      · exact .inl upd_same
      · exact .inr ⟨x, upd_same⟩
    · obtain ⟨h1, h2⟩ := R.sub b o q
      refine ⟨fun z => by rw [upd_ne e]; exact h1 z, fun p v z => ?_⟩
      obtain ⟨h3, h4⟩ := h2 p v z
      refine ⟨?_, h4⟩
      unfold L2.Rd
      rw [upd_ne e]
      exact h3
  · rw [upd_ne (fun e => by rw [e, w] at q; cases q)]
    exact (R.own b j q).2
  · rw [upd_ne (fun e => by rw [e, w] at q2; cases q2)]
    exact q1
  · refine R.src.map fun s0 c0 t hsa k => ?_
    obtain ⟨n1, n2⟩ := ns s0 c0 hsa
    exact ⟨by rw [upd_ne (Ne.symm n1)]; exact k.d, by rw [upd_ne (Ne.symm n2)]; exact k.c, k.ne, k.zs, k.zc, k.ws, k.wc⟩
/-- what holds of a run under the lock -/
theorem Ext.relay {g g' : Gh} {H H' : Hp} {a : Addr} {u : HO} {od : Obj} (E : Ext sa g (L2.upd H a (.frz od u)) g' H') (h : H a = some u) (hz : g.Z a = some (dz u)) (w : g.w a = none) (ns : NotSrc sa a) :
    H' a = some (.frz od u) ∧ Ext sa g H g' (L2.upd H' a u) := by
  obtain ⟨k1, k2, _⟩ := E.keep a _ upd_same w ns
  refine ⟨k1, E.z, fun b o q n s => ?_, fun b q => ?_⟩
  · by_cases e : b = a
    · subst e
      rw [h] at q
      cases q
      exact ⟨upd_same, k2, fun _ z => by rw [hz] at z; cases z⟩
    · rw [upd_ne e]
      exact E.keep b o (by rw [upd_ne e]; exact q) n s
  · by_cases e : b = a
    · subst e; rw [upd_same]; exact fun z => nomatch z
    · rw [upd_ne e]
      exact E.there b (by rw [upd_ne e]; exact q)
/-- an end under the lock -/
def lockD (d : Addr) (od : Obj) (u : HO) (D : Ends) : Ends := ⟨fun σ' H' => H' d = some (.frz od u) ∧ D.nx σ' (upd H' d u), fun v H' => H' d = some (.frz od u) ∧ D.rt v (upd H' d u), fun σ' H' => H' d = some (.frz od u) ∧ D.bk σ' (upd H' d u), fun σ' H' => H' d = some (.frz od u) ∧ D.ct σ' (upd H' d u)⟩
theorem rt_relay {g' : Gh} {H H' : Hp} {a : Addr} {u : HO} {od : Obj} {v : V} {r : Rv} (h : H a = some u) (k1 : H' a = some (.frz od u)) (hz : g'.Z a = some (dz u)) (O : RtOk sa (upd H a (.frz od u)) g' H' v r) : RtOk sa H g' (upd H' a u) v r := by
  have ne : ∀ p, g'.Z p = none → p ≠ a := fun p e z => by rw [z, hz] at e; cases e
  cases r with
  | dat d => exact O
  | view i => exact O
  | src => exact O
  | lst xs =>
    obtain ⟨p, vs, h1, h2, h3, h4, h5, h6⟩ := O
    exact ⟨p, vs, h1, by rw [upd_ne (ne p h4)]; exact h2, h3, h4, h5, fun z => by have := h6 z; rw [upd_ne (ne p h4)] at this; exact this⟩
  | dct T kvs =>
    obtain ⟨p, vs, h1, h2, h3, h4, h5, h6⟩ := O
    exact ⟨p, vs, h1, by rw [upd_ne (ne p h4)]; exact h2, h3, h4, h5, fun z => by have := h6 z; rw [upd_ne (ne p h4)] at this; exact this⟩
theorem EndOk.lock {g : Gh} {st : St} {σ : L2.St} {H : Hp} {a : Addr} {u : HO} {od : Obj} {D : Ends} {o : Out} (k : EndOk sa g H D o) (R : SR sa g st σ H) (h : H a = some u) (hz : g.Z a = some (dz u)) : EndOk sa g (upd H a (.frz od u)) (lockD a od u D) o := by
  obtain ⟨_, _, w, ns⟩ := R.dzAt hz
  cases o with
  | nx st' => exact fun σ' g' H' R' E' => let ⟨k1, E2⟩ := E'.relay h hz w ns; ⟨k1, k σ' g' _ (R'.relay (E'.z _ _ hz) (.inl rfl)) E2⟩
  | bk st' => exact fun σ' g' H' R' E' => let ⟨k1, E2⟩ := E'.relay h hz w ns; ⟨k1, k σ' g' _ (R'.relay (E'.z _ _ hz) (.inl rfl)) E2⟩
  | ct st' => exact fun σ' g' H' R' E' => let ⟨k1, E2⟩ := E'.relay h hz w ns; ⟨k1, k σ' g' _ (R'.relay (E'.z _ _ hz) (.inl rfl)) E2⟩
  | rt r st' => exact fun v σ' g' H' R' E' O' => let ⟨k1, E2⟩ := E'.relay h hz w ns; ⟨k1, k v σ' g' _ (R'.relay (E'.z _ _ hz) (.inl rfl)) E2 (rt_relay h k1 (E'.z _ _ hz) O')⟩
/-- a name whose dict stands locked: keys, or items -/
def tDk (sa : SA) (items : Bool) (i : Nat) : TI := fun σ H P => ∃ g st d o u T kvs, SR sa g st σ H ∧ σ[i]? = some (some (.ref d)) ∧ g.Z d = some (dz u) ∧ DkOk g.Z T u kvs ∧ H d = some (.frz o u) ∧ (items = true → T = false) ∧
  ∀ J L, Held sa L g H → Yields J L g.Z (if items then kvs.map fun p => .tuple [p.1, p.2] else kvs.map (·.1)) → P J H
theorem pi_dk {tg : Expr} {i : Nat} {x : Str} {pos : Pos} (hN : X.N[i]? = some x) (hv : Vis X.env.scope x) (hd : (x == ("__debug__" : Str)) = false) (hcd : (x == ("__classdict__" : Str)) = false) :
    PI X tg (.Name x pos) (tDk sa false i) := (L2.pi_keys (pe_name hN hv hd hcd)).wk fun σ H P ⟨g, st, d, o, u, T, kvs, R, hs, hz, hk, hl, _, k⟩ => by
  refine ⟨_, hs, d, o, rfl, ?_⟩
  obtain ⟨_, _, w, ns⟩ := R.dzAt hz
  have held : ∀ z, H d = some z → Held sa [(d, z)] g H := fun z e p hp => by
    rw [List.mem_singleton] at hp
    subst hp
    exact ⟨e, w, ns⟩
  cases hk with
  | k h => exact .inl ⟨_, hl, k _ _ (held _ hl) (yl_keys h)⟩
  | t h => exact .inr ⟨_, hl, k _ _ (held _ hl) (yl_keysT h)⟩
theorem pi_di {elts : List Expr} {kk : Nat} {tpos : Pos} {i : Nat} {x : Str} {pos apos cpos : Pos} (hN : X.N[i]? = some x) (hv : Vis X.env.scope x) (hd : (x == ("__debug__" : Str)) = false) (hcd : (x == ("__classdict__" : Str)) = false) (hline : (apos.endLine == cpos.line) = true) :
    PI X (.Tuple elts kk tpos) (.Call (.Attribute (.Name x pos) "items" apos) [] [] cpos) (tDk sa true i) := (L2.pi_items (pe_name hN hv hd hcd) rfl hline).wk fun σ H P ⟨g, st, d, o, u, T, kvs, R, hs, hz, hk, hl, hT, k⟩ => by
  obtain rfl := hT rfl
  obtain ⟨_, _, w, ns⟩ := R.dzAt hz
  have held : ∀ z, H d = some z → Held sa [(d, z)] g H := fun z e p hp => by
    rw [List.mem_singleton] at hp
    subst hp
    exact ⟨e, w, ns⟩
  cases hk with
  | k h => exact ⟨_, hs, d, o, _, rfl, hl, k _ _ (held _ hl) (yl_items h)⟩
theorem PS_or {st : Stmt} {t t' : TS} (h : PS X st t) (h' : PS X st t') : PS X st fun D σ H => t D σ H ∨ t' D σ H := ⟨fun pins s σ H D I q => q.elim (h.run pins s σ H D I) (h'.run pins s σ H D I)⟩
/-- a dict at a slot -/
theorem dk_at {g : Gh} {st st1 : St} {σ : L2.St} {H : Hp} {i : Nat} {d : D} {q : Bool × List (D × D)} (R : SR sa g st σ H) (e1 : frz st (.view i) = some (d, st1)) (e2 : dctOf d = some q) :
    ∃ g1 a u, SR sa g1 st1 σ H ∧ Ext sa g H g1 H ∧ σ[i]? = some (some (.ref a)) ∧ g1.Z a = some (dz u) ∧ DkOk g1.Z q.1 u q.2 ∧ (H a = some u ∨ ∃ x, H a = some (.frz x u)) := by
  have hv : ∃ v, σ[i]? = some (some v) := by
    have s := R.slot i
    simp only [frz] at e1
    split at e1
    · rename_i z; rw [z] at s; obtain ⟨a, _, e, _⟩ := s; exact ⟨_, e⟩
    · rename_i z; rw [z] at s; obtain ⟨a, _, e, _⟩ := s; exact ⟨_, e⟩
    · rename_i z; rw [z] at s; obtain ⟨a, e, _⟩ := s; exact ⟨_, e⟩
    · cases e1
  obtain ⟨v, hv⟩ := hv
  obtain ⟨g1, R1, E1, z1, O1⟩ := frz_ok (v := v) (r := .view i) R .refl hv e1
  obtain rfl := dctOf_is e2
  obtain ⟨a, u, rfl, hz, hk⟩ := dct_dt O1
  exact ⟨g1, a, u, R1, E1, hv, hz, hk, (R1.sub.rd hz)⟩
theorem ds_forK (hp : PassesOwn (model X.prog X.w) X.A X.env X.xe) (hc : X.calm = true) {tmp : List Nat} {tg it : Expr} {t : Tg} {items : Bool} {i : Nat} {itx : Itx} {body : List Stmt} {cs : Sms} {pos : Pos} (hi : PI X tg it (tDk sa items i)) (hfold : ∀ x, foldedSetIterable it X.env x = pure x)
    (hev : ∀ st ds p2, evalI Γ itx st = some (ds, p2) → ∃ d q, frz st (.view i) = some (d, p2) ∧ dctOf d = some q ∧ (items = true → q.1 = false) ∧ ds = if items then q.2.map (fun p => .tuple [p.1, p.2]) else q.2.map (·.1))
    (hg : DG X sa tg t) (hb : DSs X sa body (execs Γ cs)) :
    DS X sa (.For tg it body [] pos) (exec Γ (.for tmp t itx cs)) := by
  have core := L2.ps_for (pos := pos) hp hc hi hg.pg hb hfold
  refine (PS_or core (L2.ps_lock core)).wk fun D σ H ⟨g, st, o, R, e, k⟩ => ?_
  have e : (evalI Γ itx st).bind (fun p => forRun tmp (bodyF Γ t cs) p.1 p.2) = some o := by
    simp only [exec] at e
    exact e
  simp only [Option.bind_eq_some_iff] at e
  obtain ⟨⟨ds, p2⟩, e1, run⟩ := e
  obtain ⟨d, q, e2, e3, hT, rfl⟩ := hev _ _ _ e1
  obtain ⟨g1, a, u, R1, E1, hv, hz, hk, hr⟩ := dk_at R e2 e3
  have k1 := EndOk.after k E1
  rcases hr with hr | ⟨x, hr⟩
  · refine .inr ⟨a, u, hr, ?_, fun od => ?_⟩
    · exact hk.mut
    · exact ⟨g1, p2, a, od, u, q.1, q.2, R1.relay hz (.inr ⟨od, rfl⟩), hv, hz, hk, upd_same, hT, fun J L HL Y => for_rest Γ (R1.relay hz (.inr ⟨od, rfl⟩)) HL Y run (EndOk.lock (od := od) k1 R1 hr hz)⟩
  · exact .inl ⟨g1, p2, a, x, u, q.1, q.2, R1, hv, hz, hk, hr, hT, fun J L HL Y => for_rest Γ R1 HL Y run k1⟩
theorem ev_dk {i : Nat} {st : St} {ds : List D} {p2 : St} (h : evalI Γ (.dk i) st = some (ds, p2)) : ∃ d q, frz st (.view i) = some (d, p2) ∧ dctOf d = some q ∧ (false = true → q.1 = false) ∧ ds = if false then q.2.map (fun p => .tuple [p.1, p.2]) else q.2.map (·.1) := by
  simp only [evalI, Option.bind_eq_some_iff, Option.map_eq_some_iff] at h
  obtain ⟨⟨d, s⟩, e1, q, e2, e3⟩ := h
  cases e3
  exact ⟨d, q, e1, e2, (fun z => by cases z), rfl⟩
theorem ev_di {i : Nat} {st : St} {ds : List D} {p2 : St} (h : evalI Γ (.di i) st = some (ds, p2)) : ∃ d q, frz st (.view i) = some (d, p2) ∧ dctOf d = some q ∧ (true = true → q.1 = false) ∧ ds = if true then q.2.map (fun p => .tuple [p.1, p.2]) else q.2.map (·.1) := by
  simp only [evalI, Option.bind_eq_some_iff] at h
  obtain ⟨⟨d, s⟩, e1, q, e2, e3⟩ := h
  dsimp only at e3
  split at e3
  · cases e3
  · rename_i hq
    cases e3
    exact ⟨d, q, e1, e2, (fun _ => by simpa using hq), rfl⟩
/-- what a marked iterable is -/
structure KOk (X : Cx) (sa : SA) (tg it : Expr) (itx : Itx) (items : Bool) (i : Nat) : Prop where
  pi : PI X tg it (tDk sa items i)
  fold : ∀ x, foldedSetIterable it X.env x = pure x
  ev : ∀ st ds p2, evalI Γ itx st = some (ds, p2) → ∃ d q, frz st (.view i) = some (d, p2) ∧ dctOf d = some q ∧ (items = true → q.1 = false) ∧ ds = if items then q.2.map (fun p => .tuple [p.1, p.2]) else q.2.map (·.1)
structure DLK (X : Cx) (sa : SA) (tg : Expr) (it : Expr) (ifs : List Expr) (elt : Expr) (scope : Scope) (own : List (Str × Nat)) (t : Tg) (itx : Itx) (c e : Ex) (items : Bool) (i : Nat) : Prop where
  it : KOk Γ X sa tg it itx items i
  ok : BlkOk X.N X.env.scope scope own
  tg : ∀ (s : Shared) (H : Hp) (C : Addr) (cl : List (Str × Addr)) (fp : List Addr), DG (blkX X scope s H C cl fp) sa tg t
  ts : ∀ (s : Shared) (H : Hp) (C : Addr) (cl : List (Str × Addr)) (fp : List Addr), PTs (blkX X scope s H C cl fp) ifs (tDC sa (evalC Γ c))
  el : ∀ (s : Shared) (H : Hp) (C : Addr) (cl : List (Str × Addr)) (fp : List Addr), DE (blkX X scope s H C cl fp) sa elt (eval Γ e)
  sl : ∀ i ∈ tgSlots t, i ∈ own.map (·.2)
/-- a comprehension over a dict -/
theorem rd_lcK {tg it elt : Expr} {ifs : List Expr} {scope : Scope} {own : List (Str × Nat)} {t : Tg} {items : Bool} {i : Nat} {itx : Itx} {c e : Ex} (h : DLK Γ X sa tg it ifs elt scope own t itx c e items i) {σ : L2.St} {H : Hp} {Q : VK} (q : tD sa (eval Γ (.comp (own.map (·.2)) t itx c e)) σ H Q) :
    L2.tLc (tDk sa items i) (gD sa t) (tDC sa (evalC Γ c)) (tD sa (eval Γ e)) (own.map (·.2)) σ H Q ∨ tLockE (L2.tLc (tDk sa items i) (gD sa t) (tDC sa (evalC Γ c)) (tD sa (eval Γ e)) (own.map (·.2))) σ H Q := by
  obtain ⟨g, st, r, st', R, ev, k⟩ := q
  obtain ⟨ds, p2, out, s2, e1, e2, hlen, rfl, rfl⟩ := ev_comp Γ ev
  obtain ⟨d, q, e3, e4, hT, rfl⟩ := h.it.ev _ _ _ e1
  obtain ⟨g1, a, u, R1, E1, hv, hz, hk, hr⟩ := dk_at R e3 e4
  have k1 : ∀ v g' H', SR sa g' (back (own.map (·.2)) (frzAll (own.map (·.2)) p2) s2) σ H' → Ext sa g1 H g' H' → RvOk sa H g' σ H' v (.lst out) → Q v H' := fun v g' H' R' E' O' => k v g' H' R' (E1.trans E') O'
  rcases hr with hr | ⟨x, hr⟩
  · obtain ⟨_, _, w, ns⟩ := R1.dzAt hz
    refine .inr ⟨a, u, hr, hk.mut, fun od => ?_⟩
    refine ⟨g1, p2, a, od, u, q.1, q.2, R1.relay hz (.inr ⟨od, rfl⟩), hv, hz, hk, upd_same, hT, fun J L HL Y => lc_rest (Q := fun v H' => H' a = some (.frz od u) ∧ Q v (L2.upd H' a u)) Γ h.sl (R1.relay hz (.inr ⟨od, rfl⟩)) HL Y e2 hlen fun v g' H' R' E' O' => ?_⟩
    obtain ⟨h1, E2⟩ := E'.relay hr hz w ns
    have hz' := E'.z _ _ hz
    refine ⟨h1, k1 v g' _ (R'.relay hz' (.inl rfl)) E2 ?_⟩
    obtain ⟨p, vs, q1, q2, q3, q4, q5, q6, q7⟩ := O'
    have ne : p ≠ a := fun z => by rw [z, hz'] at q5; cases q5
    exact ⟨p, vs, q1, by rw [upd_ne ne] at q2; exact q2, by rw [upd_ne ne]; exact q3, q4, q5, q6, q7⟩
  · exact .inl ⟨g1, p2, a, x, u, q.1, q.2, R1, hv, hz, hk, hr, hT, fun J L HL Y => lc_rest Γ h.sl R1 HL Y e2 hlen k1⟩
theorem de_compK (hc : X.calm = true) (hN : X.N.Nodup) {tg it elt : Expr} {ifs : List Expr} {scope : Scope} {own : List (Str × Nat)} {t : Tg} {items : Bool} {i : Nat} {itx : Itx} {c e : Ex} {pos : Pos} (h : DLK Γ X sa tg it ifs elt scope own t itx c e items i) :
    DE X sa (.ListComp elt [⟨tg, it, ifs, 0⟩] scope pos) (eval Γ (.comp (own.map (·.2)) t itx c e)) := by
  have core := L2.pe_lc (pos := pos) hc hN h.it.pi h.ok (fun s H C cl fp => (h.tg s H C cl fp).pg) h.ts (fun s H C cl fp => (h.el s H C cl fp).pe) h.it.fold
  exact DE.val ((PE_or core (L2.pe_lock core)).wk fun σ H Q q => rd_lcK Γ h q) rfl
theorem ds_setLcK (hc : X.calm = true) (hN : X.N.Nodup) {j : Nat} {y : Str} {tg it elt : Expr} {ifs : List Expr} {scope : Scope} {own : List (Str × Nat)} {t : Tg} {items : Bool} {i : Nat} {itx : Itx} {c e : Ex} {p pos spos : Pos} (hj : X.N[j]? = some y) (hy : X.env.scope.names.lookup y = some .local)
    (hs : swapsWith (.ListComp elt [⟨tg, it, ifs, 0⟩] scope pos) (some (.Name y p)) spos.line X.env = pure true) (h : DLK Γ X sa tg it ifs elt scope own t itx c e items i) :
    DS X sa (.Assign [.Name y p] (.ListComp elt [⟨tg, it, ifs, 0⟩] scope pos) spos) (exec Γ (.set j (.comp (own.map (·.2)) t itx c e))) := by
  have core := L2.ps_setLc hc hN hj hy hs h.it.pi h.ok (fun s H C cl fp => (h.tg s H C cl fp).pg) h.ts (fun s H C cl fp => (h.el s H C cl fp).pe) h.it.fold
  refine (PS_or core (L2.ps_lock core)).wk fun D σ H q => ?_
  obtain ⟨g, st, o, R, e, k⟩ := q
  simp only [exec, Option.bind_eq_some_iff, Option.map_eq_some_iff] at e
  obtain ⟨⟨r, st1⟩, e1, st2, e2, e3⟩ := e
  cases e3
  exact rd_lcK Γ h ⟨g, st, r, st1, R, e1, fun v g1 H1 R1 E1 O1 => by
    obtain ⟨g2, R2, E2⟩ := keep_ok R1 E1 O1 e2
    exact k _ g2 H1 R2 E2⟩
end
end Pf

set_option maxRecDepth 100000
/-! Pf10: from the text to the core, expressions. -/
namespace Pf
open PySem PySem.Spec PyProof.Rows
open L2 (V Hp HO upd upd_same upd_ne Same SqL SqT Dp DpAll Key Vals Cx Inv OpR R2 VK PE PT PA PS PSs PI PG PGs PTs PSet PGet PIp TE TT TA TS TI TG TGs TIp It RelV EP Vis Loc Gl Room Env0 CE CallR tCB TyOf TyX wipe BlkOk Ends)

def ixOf (x : Str) : List Str → Option Nat
  | [] => none
  | y :: r => if y = x then some 0 else (ixOf x r).map (· + 1)
theorem ixOf_some {x : Str} : ∀ {N : List Str} {i : Nat}, ixOf x N = some i → N[i]? = some x
  | [], _, h => by cases h
  | y :: r, i, h => by
    simp only [ixOf] at h
    split at h
    · rename_i e
      cases h
      simp [e]
    · simp only [Option.map_eq_some_iff] at h
      obtain ⟨j, h1, rfl⟩ := h
      simpa using ixOf_some h1
/-- the table of a text: the slots' names; the defs (name, number, parameters, draws); the slots a loop lets go (by its line) -/
structure Tb where
  N : List Str
  fns : List (Str × Nat × Nat × Bool)
  blt : List Str
  fuel : Nat := 0
  tmp : List (Nat × List Nat) := []
  dts : List (Nat × Nat) := []
def visB (sc : Scope) (x : Str) : Bool := match sc.names.lookup x with
  | some .local => true
  | some .cell => true
  | some .free => true
  | _ => false
theorem visB_is {sc : Scope} {x : Str} (h : visB sc x = true) : Vis sc x := by
  unfold visB at h
  split at h
  · rename_i e; exact .inl e
  · rename_i e; exact .inr (.inl e)
  · rename_i e; exact .inr (.inr e)
  · cases h
def glB (sc : Scope) (x : Str) : Bool := match sc.names.lookup x with
  | some .globalImplicit => true
  | _ => false
theorem glB_is {X : Cx} {x : Str} (h : glB X.env.scope x = true) : Gl X x := by
  unfold glB at h
  split at h
  · rename_i e; exact e
  · cases h
def nameOk (x : Str) : Bool := !(x == ("__debug__" : Str)) && !(x == ("__classdict__" : Str)) && !(x == ("__name__" : Str))
theorem nameOk_is {x : Str} (h : nameOk x = true) : (x == ("__debug__" : Str)) = false ∧ (x == ("__classdict__" : Str)) = false ∧ x ≠ "__name__" := by
  simp only [nameOk, Bool.and_eq_true, Bool.not_eq_true'] at h
  refine ⟨h.1.1, h.1.2, fun e => ?_⟩
  rw [e] at h
  have := h.2
  simp at this
def opOf : Operator → Option Op2
  | .Add => some .add
  | .Sub => some .sub
  | .Mult => some .mul
  | .FloorDiv => some .fdiv
  | .Mod => some .mod
  | .LShift => some .shl
  | _ => none
def cmpOf : CmpOp → Option Op2
  | .Eq => some .eq
  | .NotEq => some .ne
  | .Lt => some .lt
  | .LtE => some .le
  | .Gt => some .gt
  | .GtE => some .ge
  | .In => some .isin
  | .NotIn => some .notin
  | .Is => some .is_
  | .IsNot => some .isnt
theorem opOf_is {op : Operator} {o : Op2} (h : opOf op = some o) : opAst o = some op := by
  cases op <;> simp only [opOf, reduceCtorEq, Option.some.injEq] at h <;> subst h <;> rfl
theorem cmpOf_is {op : CmpOp} {o : Op2} (h : cmpOf op = some o) : cmpAst o = some op := by
  cases op <;> simp only [cmpOf, reduceCtorEq, Option.some.injEq] at h <;> subst h <;> rfl
def isNop : Ex → Bool
  | .nop => true
  | _ => false
theorem isNop_ne {c : Ex} (h : isNop c = false) : c ≠ .nop := fun e => by rw [e] at h; cases h
/-- what a table's X must keep -/
structure EnvOk (Γ : Nat → Fn) (T : Tb) (X : Cx) : Prop where
  calm : X.calm = true
  guards : X.A.guards = some []
  units : X.A.units + 80 < cLine
  nodup : X.N.Nodup
  names : X.N = T.N
  fns : ∀ x i n b, T.fns.lookup x = some (i, n, b) → (b = false → ∃ F, Here X x n (spP n F) ∧ Γ i = .pure F) ∧ (b = true → ∃ F, Here X x n (spS n F) ∧ Γ i = .srcd F)
  blt : ∀ x ∈ T.blt, X.mg x = none
theorem EnvOk.blk {Γ : Nat → Fn} {T : Tb} {X : Cx} (h : EnvOk Γ T X) (scope : Scope) (s : Shared) (H : Hp) (C : Addr) (cl : List (Str × Addr)) (fp : List Addr) : EnvOk Γ T (blkX X scope s H C cl fp) where
  calm := h.calm
  guards := h.guards
  units := h.units
  nodup := h.nodup
  names := h.names
  blt := h.blt
  fns := fun x i n b e => ⟨fun hb => let ⟨F, h1, h2⟩ := (h.fns x i n b e).1 hb; ⟨F, ⟨h1.ex⟩, h2⟩, fun hb => let ⟨F, h1, h2⟩ := (h.fns x i n b e).2 hb; ⟨F, ⟨h1.ex⟩, h2⟩⟩

/-! ### the parts, over what an expression becomes -/
section
variable (rec : Expr → Option Ex)
def cpEs : List Expr → Option Exs
  | [] => some .nil
  | .Starred e _ :: r => (rec e).bind fun c => (cpEs r).map (.star c)
  | e :: r => (rec e).bind fun c => (cpEs r).map (.cons c)
def cpAs : List Expr → Option Exs
  | [] => some .nil
  | e :: r => (rec e).bind fun c => (cpAs r).map (.cons c)
def mkB : BoolOp → Ex → Ex → Ex
  | .And => .and2
  | .Or => .or2
def cpBool (op : BoolOp) : List Expr → Option Ex
  | [] => none
  | a :: r => (rec a).bind fun c => match r with
    | [] => some c
    | _ => (cpBool op r).map (mkB op c)
def cpO : Option Expr → Option Ex
  | none => some .nop
  | some e => (rec e).bind fun c => if isNop c then none else some c
def biTab : List (Str × Nat × Bi) := [("len", 1, .len), ("abs", 1, .abs), ("int", 1, .int), ("sum", 1, .sum), ("min", 1, .min1), ("max", 1, .max1), ("sorted", 1, .sorted), ("list", 1, .list), ("tuple", 1, .tuple), ("all", 1, .all), ("repr", 1, .repr), ("min", 2, .min2), ("max", 2, .max2)]
def biFind (x : Str) (n : Nat) : List (Str × Nat × Bi) → Option Bi
  | [] => none
  | p :: r => if p.1 = x ∧ p.2.1 = n then some p.2.2 else biFind x n r
theorem biFind_mem {x : Str} {n : Nat} {b : Bi} : ∀ {l : List (Str × Nat × Bi)}, biFind x n l = some b → (x, n, b) ∈ l
  | [], h => by cases h
  | p :: r, h => by
    simp only [biFind] at h
    split at h
    · rename_i e
      cases h
      obtain ⟨rfl, rfl⟩ := e
      exact List.mem_cons_self
    · exact List.mem_cons_of_mem _ (biFind_mem h)
def biOf (x : Str) (n : Nat) : Option Bi := biFind x n biTab
def isOf (x : Str) : Option Bi := if x = "tuple" then some .isTup else if x = "int" then some .isInt else if x = "bool" then some .isBool else if x = "str" then some .isStr else none
def cpRng : Expr → Option (Ex × Ex)
  | .Call (.Name _ _) [a] [] _ => (rec a).bind fun c => if isNop c then none else some (.nop, c)
  | .Call (.Name _ _) [a, b] [] _ => (rec a).bind fun c => (rec b).bind fun d => if isNop c || isNop d then none else some (c, d)
  | _ => none
/-- range(..) by its name -/
def isRng (sc : Scope) (blt : List Str) : Expr → Bool
  | .Call (.Name x _) _ [] _ => x == ("range" : Str) && glB sc x && blt.contains x
  | _ => false
end
/-- the block's own names -/
def ownOf (N : List Str) : List (Str × NameKind) → List (Str × Nat)
  | [] => []
  | (y, k) :: r => match k with
    | .local => (match ixOf y N with | some i => (y, i) :: ownOf N r | none => ownOf N r)
    | .cell => (match ixOf y N with | some i => (y, i) :: ownOf N r | none => ownOf N r)
    | _ => ownOf N r
/-- where a name may be stored -/
def locB (all : Bool) (cells : Str → Bool) (sc : Scope) (x : Str) : Bool := match sc.names.lookup x with
  | some .local => true
  | some .cell => all || cells x
  | _ => false
section
variable (N : List Str) (all : Bool) (cells : Str → Bool) (sc : Scope)
def cpT : Nat → Expr → Option Tg
  | 0, _ => none
  | n + 1, e => match e with
    | .Name x _ => if locB all cells sc x then (ixOf x N).map .name else none
    | .Tuple es _ _ => (cpTs (cpT n) es).map .tup
    | _ => none
where cpTs (rec : Expr → Option Tg) : List Expr → Option (List Tg)
  | [] => some []
  | e :: r => (rec e).bind fun t => (cpTs rec r).map fun ts => t :: ts
end
def isTupE : Expr → Bool
  | .Tuple .. => true
  | _ => false
def cpI (rec : Expr → Option Ex) (sc : Scope) (blt : List Str) (tg : Expr) (e : Expr) : Option Itx := match e with
  | .Call (.Name x _) args [] _ =>
    if glB sc x && blt.contains x then
      if x = "range" then match args with
        | [a] => (rec a).map .rng1
        | [a, b] => (rec a).bind fun c => (rec b).map fun d => .rng2 c d
        | _ => none
      else if x = "enumerate" then match args with
        | [a] => if isTupE tg then (rec a).map .enm else none
        | _ => none
      else if x = "zip" then match args with
        | [a, b] => if isTupE tg then (rec a).bind fun c => (rec b).map fun d => .zip false c d else none
        | _ => none
      else (rec e).map .seq
    else (rec e).map .seq
  | .Call (.Name x _) [a, b] [⟨some y, .Constant (.bool true) _ _, _⟩] _ =>
    if x = "zip" && y = "strict" && glB sc x && blt.contains x && isTupE tg then (rec a).bind fun c => (rec b).map fun d => .zip true c d else none
  | e => (rec e).map .seq
def cpKI : Option Itx → Option Itx → Option Itx
  | some i, _ => some i
  | none, j => j
/-- a dict's walk: a name marked in the table, x.items() -/
def cpK (N : List Str) (dts : List (Nat × Nat)) (sc : Scope) (tg : Expr) (e : Expr) : Option Itx := match e with
  | .Name x pos => if dts.contains (pos.line, pos.col + 10000) && visB sc x && nameOk x then (ixOf x N).map .dk else none
  | .Call (.Attribute (.Name x _) m apos) [] [] cpos => if m = "items" && visB sc x && nameOk x && (apos.endLine == cpos.line) && isTupE tg then (ixOf x N).map .di else none
  | _ => none
def cpIfs (rec : Expr → Option Ex) : List Expr → Option Ex
  | [] => some .nop
  | [c] => (rec c).bind fun d => if isNop d then none else some d
  | _ => none
variable (T : Tb)
def cpCall (rec : Expr → Option Ex) (sc : Scope) (f : Expr) (args : List Expr) (pos : Pos) : Option Ex := match f with
  | .Name x _ => if glB sc x && nameOk x then
      match T.fns.lookup x with
      | some (i, n, b) => if args.length = n && !args.isEmpty then (cpAs rec args).map fun cs => if b then .callS i cs else .call i cs else none
      | none => if T.blt.contains x then
          if x = "isinstance" then (match args with
            | [e, .Name t _] => if glB sc t && T.blt.contains t && nameOk t then (isOf t).bind fun b => (rec e).map fun c => .bi b (.cons c .nil) else none
            | _ => none)
          else if x = "dict" then (match args with
            | [e] => (cpAs rec [e]).map (.bi (.dict (T.dts.contains (pos.line, pos.col))))
            | _ => none)
          else match args with
            | [] => none
            | e :: es => if es.isEmpty && isRng sc T.blt e && (x == ("list" : Str) || x == ("tuple" : Str)) then (cpRng rec e).map fun p => .rngL (x == ("tuple" : Str)) p.1 p.2
              else (biOf x (e :: es).length).bind fun b => (cpAs rec (e :: es)).map (.bi b)
        else none
    else none
  | .Attribute (.Name x _) m apos => if visB sc x && nameOk x && (apos.endLine == pos.line) then
      (ixOf x T.N).bind fun i =>
        if m = "pop" then (match args with
          | [] => some (.pop i .nop)
          | [e] => (rec e).bind fun c => if isNop c then none else some (.pop i c)
          | _ => none)
        else if m = "index" then (match args with
          | [e] => (rec e).map fun c => .index (.var i) c
          | _ => none)
        else if m = "get" then (match args with
          | [e, d] => (rec e).bind fun c => (rec d).map fun f => .get2 (.var i) c f
          | _ => none)
        else none
    else none
  | _ => none
def cpSub (rec : Expr → Option Ex) (a b : Expr) : Option Ex := match b with
  | .Slice none none (some (.UnaryOp .USub (.Constant (.int 1) _ _) _)) _ => (rec a).map fun c => .slc .rev c .nop .nop
  | .Slice lo hi none _ => (rec a).bind fun c => (cpO rec lo).bind fun l => (cpO rec hi).map fun h => .slc .cut c l h
  | .Slice .. => none
  | b => (rec a).bind fun c => (rec b).map fun d => .idx c d
/-- a comprehension in the core -/
def cpLc (rec : Scope → Expr → Option Ex) (sc : Scope) (elt tg it : Expr) (ifs : List Expr) (scope : Scope) : Option (List Nat × Tg × Itx × Ex × Ex) :=
  if L2.blkC T.N sc scope (ownOf T.N scope.names) then
    (cpT T.N false (fun x => scope.names.lookup x == some .cell) (L2.relS scope sc) 8 tg).bind fun t => if (tgSlots t).all fun i => ((ownOf T.N scope.names).map (·.2)).contains i then
      (cpKI (cpK T.N T.dts sc tg it) (cpI (rec sc) sc T.blt tg it)).bind fun i => (cpIfs (rec (L2.relS scope sc)) ifs).bind fun c => (rec (L2.relS scope sc) elt).map fun e => ((ownOf T.N scope.names).map (·.2), t, i, c, e) else none
  else none
def sfOf (k : Str) : Option Sf := if k = "left" then some .left else if k = "mixed" then some .mixed else if k = "turn" then some .turn else none
/-- the source's own forms -/
def srcE (sc : Scope) (e : Expr) : Option Ex := match e with
  | .Subscript (.Name x _) (.Constant (.str k) _ _) _ => if visB sc x && nameOk x then (ixOf x T.N).bind fun i => (sfOf k).map (.sget i) else none
  | .Call (.Name f _) [.Subscript (.Name x _) (.Constant (.str k) _ _) _] [] _ => if f = "len" && k = "cells" && glB sc f && T.blt.contains f && visB sc x && nameOk x then (ixOf x T.N).map .slen else none
  | .Call (.Attribute (.Subscript (.Name x _) (.Constant (.str k) _ _) _) m apos) [] [] pos => if m = "pop" && k = "cells" && visB sc x && nameOk x && (apos.endLine == pos.line) then (ixOf x T.N).map .spop else none
  | _ => none
/-- the text of an expression in the core -/
def cpE : Nat → Scope → Expr → Option Ex
  | 0, _, _ => none
  | n + 1, sc, e => match srcE T sc e with
    | some c => some c
    | none => match e with
    | .Name x _ => if visB sc x && nameOk x then (ixOf x T.N).map .var else none
    | .Constant (.int i) _ _ => some (.cst (.int i))
    | .Constant (.bool i) _ _ => some (.cst (.bool i))
    | .Constant (.str i) _ _ => some (.cst (.str i))
    | .Constant .none _ _ => some (.cst .none)
    | .Tuple es _ _ => (cpEs (cpE n sc) es).map .tup
    | .List es _ => (cpEs (cpE n sc) es).map .lst
    | .BinOp a op b _ => (opOf op).bind fun o => (cpE n sc a).bind fun c => (cpE n sc b).map fun d => .op2 o c d
    | .UnaryOp .USub a _ => (cpE n sc a).map .neg
    | .UnaryOp .Not a _ => (cpE n sc a).map .not
    | .Compare a [op] [b] _ => (cmpOf op).bind fun o => (cpE n sc a).bind fun c => (cpE n sc b).map fun d => .op2 o c d
    | .Compare a [op1, op2] [b, c] _ => (cmpOf op1).bind fun o1 => (cmpOf op2).bind fun o2 => (cpE n sc a).bind fun x => (cpE n sc b).bind fun y => (cpE n sc c).map fun z => .chain o1 o2 x y z
    | .BoolOp op vs _ => cpBool (cpE n sc) op vs
    | .IfExp t a b _ => (cpE n sc t).bind fun x => (cpE n sc a).bind fun y => (cpE n sc b).map fun z => .ite x y z
    | .Subscript a b _ => cpSub (cpE n sc) a b
    | .Call f args [] pos => cpCall T (cpE n sc) sc f args pos
    | .Dict [] [] pos => some (.dnew (T.dts.contains (pos.line, pos.col)))
    | .Dict [some k] [v] _ => (cpE n sc k).bind fun c => (cpE n sc v).map fun d => .ddisp c d
    | .ListComp elt [⟨tg, it, ifs, 0⟩] scope _ => (cpLc T (cpE n) sc elt tg it ifs scope).map fun q => .comp q.1 q.2.1 q.2.2.1 q.2.2.2.1 q.2.2.2.2
    | _ => none

section
variable {Γ : Nat → Fn} {T : Tb} {X : Cx} {sa : SA}
/-- what the recursion is to give -/
def RecOk (Γ : Nat → Fn) (sa : SA) (X : Cx) (rec : Expr → Option Ex) : Prop := ∀ e c, rec e = some c → DE X sa e (eval Γ c)
theorem cpEs_ok {rec : Expr → Option Ex} (hr : RecOk Γ sa X rec) : ∀ {es : List Expr} {cs : Exs}, cpEs rec es = some cs → DA X sa es (evals Γ cs)
  | [], cs, h => by
    simp only [cpEs] at h
    cases h
    exact da_nil Γ
  | e :: r, cs, h => by
    by_cases hs : ∃ a p, e = .Starred a p
    · obtain ⟨a, p, rfl⟩ := hs
      simp only [cpEs, Option.bind_eq_some_iff, Option.map_eq_some_iff] at h
      obtain ⟨c, h1, cs', h2, rfl⟩ := h
      exact da_star Γ (hr _ _ h1) (cpEs_ok hr h2)
    · have e1 : cpEs rec (e :: r) = (rec e).bind fun c => (cpEs rec r).map (.cons c) := by
        cases e <;> first
          | rfl
          | exact absurd ⟨_, _, rfl⟩ hs
      rw [e1] at h
      simp only [Option.bind_eq_some_iff, Option.map_eq_some_iff] at h
      obtain ⟨c, h1, cs', h2, rfl⟩ := h
      exact da_cons Γ (hr _ _ h1) (cpEs_ok hr h2)
theorem cpAs_f {rec : Expr → Option Ex} (hr : RecOk Γ sa X rec) : ∀ {es : List Expr} {cs : Exs}, cpAs rec es = some cs → DAf X sa es (evals Γ cs)
  | [], cs, h => by
    simp only [cpAs] at h
    cases h
    exact daf_nil Γ
  | e :: r, cs, h => by
    simp only [cpAs, Option.bind_eq_some_iff, Option.map_eq_some_iff] at h
    obtain ⟨c, h1, cs', h2, rfl⟩ := h
    exact daf_cons Γ (hr _ _ h1) (cpAs_f hr h2)
theorem cpAs_a {rec : Expr → Option Ex} (hr : RecOk Γ sa X rec) : ∀ {es : List Expr} {cs : Exs}, cpAs rec es = some cs → DAa X sa es (evala Γ cs)
  | [], cs, h => by
    simp only [cpAs] at h
    cases h
    exact daa_nil Γ
  | e :: r, cs, h => by
    simp only [cpAs, Option.bind_eq_some_iff, Option.map_eq_some_iff] at h
    obtain ⟨c, h1, cs', h2, rfl⟩ := h
    exact daa_cons Γ (hr _ _ h1) (cpAs_a hr h2)
theorem cpAs_v {rec : Expr → Option Ex} (hr : RecOk Γ sa X rec) : ∀ {es : List Expr} {cs : Exs}, cpAs rec es = some cs → DV X sa es (evalv Γ cs)
  | [], cs, h => by
    simp only [cpAs] at h
    cases h
    exact dv_nil Γ
  | e :: r, cs, h => by
    simp only [cpAs, Option.bind_eq_some_iff, Option.map_eq_some_iff] at h
    obtain ⟨c, h1, cs', h2, rfl⟩ := h
    exact dv_cons Γ (hr _ _ h1) (cpAs_v hr h2)
theorem cpBool_ok {rec : Expr → Option Ex} (hr : RecOk Γ sa X rec) {op : BoolOp} {pos : Pos} : ∀ {es : List Expr} {c : Ex}, cpBool rec op es = some c → DB X sa (.BoolOp op es pos) (eval Γ c)
  | [], c, h => by cases h
  | [a], c, h => by
    simp only [cpBool, Option.bind_eq_some_iff, Option.some.injEq] at h
    obtain ⟨d, h1, rfl⟩ := h
    exact db_one Γ (hr _ _ h1)
  | a :: b :: r, c, h => by
    have e1 : cpBool rec op (a :: b :: r) = (rec a).bind fun c => (cpBool rec op (b :: r)).map (mkB op c) := rfl
    rw [e1] at h
    simp only [Option.bind_eq_some_iff, Option.map_eq_some_iff] at h
    obtain ⟨d, h1, d2, h2, rfl⟩ := h
    cases op with
    | And => exact db_and Γ (hr _ _ h1) (cpBool_ok hr h2)
    | Or => exact db_or Γ (hr _ _ h1) (cpBool_ok hr h2)
theorem cpO_ok {rec : Expr → Option Ex} (hr : RecOk Γ sa X rec) {e : Option Expr} {c : Ex} (h : cpO rec e = some c) : DO X sa e (evalO Γ c) := by
  cases e with
  | none => cases h; exact do_none Γ
  | some e =>
    simp only [cpO, Option.bind_eq_some_iff] at h
    obtain ⟨d, h1, h2⟩ := h
    split at h2
    · cases h2
    · rename_i hn
      cases h2
      exact do_some Γ (hr _ _ h1) (isNop_ne (by simpa using hn))
theorem bi_ok (hE : EnvOk Γ T X) {x : Str} {b : Bi} {e : Expr} {es : List Expr} {cs : Exs} {p pos : Pos} (h : biOf x (e :: es).length = some b) (hg : Gl X x) (hm : X.mg x = none) (ha : DV X sa (e :: es) (evalv Γ cs)) :
    DE X sa (.Call (.Name x p) (e :: es) [] pos) (eval Γ (.bi b cs)) := by
  have hu := hE.units
  have h := biFind_mem h
  generalize hn : (e :: es).length = n at h
  clear hn
  rcases List.mem_cons.mp h with h | h
  · cases h
    exact de_biB Γ (L2.CallR.or L2.call_len_seq call_lenD) serves_len hg hm (by decide +kernel) (by decide) (by decide) ha
  rcases List.mem_cons.mp h with h | h
  · cases h
    exact de_biB Γ L2.call_abs (serves_abs (X := X)) hg hm (by decide +kernel) (by decide) (by decide) ha
  rcases List.mem_cons.mp h with h | h
  · cases h
    exact de_biT Γ L2.call_int1 (serves_int (X := X)) hg hm (by decide +kernel) (by decide) (by decide) ha
  rcases List.mem_cons.mp h with h | h
  · cases h
    exact de_biB Γ (L2.cr_sum hE.calm) serves_sum hg hm (by decide +kernel) (by decide) (by decide) ha
  rcases List.mem_cons.mp h with h | h
  · cases h
    exact de_biB Γ (L2.cr_min hE.calm) serves_min1 hg hm (by decide +kernel) (by decide) (by decide) ha
  rcases List.mem_cons.mp h with h | h
  · cases h
    exact de_biB Γ (L2.cr_max hE.calm) serves_max1 hg hm (by decide +kernel) (by decide) (by decide) ha
  rcases List.mem_cons.mp h with h | h
  · cases h
    exact de_biB Γ (L2.CallR.or (L2.call_sortD (by omega)) (L2.call_sortK (by omega) hE.calm)) serves_sorted hg hm (by decide +kernel) (by decide) (by decide) ha
  rcases List.mem_cons.mp h with h | h
  · cases h
    exact de_biT Γ L2.call_list_of serves_list hg hm (by decide +kernel) (by decide) (by decide) ha
  rcases List.mem_cons.mp h with h | h
  · cases h
    exact de_biT Γ L2.call_tuple_of serves_tuple hg hm (by decide +kernel) (by decide) (by decide) ha
  rcases List.mem_cons.mp h with h | h
  · cases h
    exact de_biB Γ (L2.cr_all hE.calm) serves_all hg hm (by decide +kernel) (by decide) (by decide) ha
  rcases List.mem_cons.mp h with h | h
  · cases h
    exact de_biB Γ (L2.call_repr (by omega) hE.guards) serves_repr hg hm (by decide +kernel) (by decide) (by decide) ha
  rcases List.mem_cons.mp h with h | h
  · cases h
    exact de_biB Γ (L2.call_min2 hE.calm) (serves_min2 (X := X)) hg hm (by decide +kernel) (by decide) (by decide) ha
  rcases List.mem_cons.mp h with h | h
  · cases h
    exact de_biB Γ (L2.call_max2 hE.calm) (serves_max2 (X := X)) hg hm (by decide +kernel) (by decide) (by decide) ha
  cases h
theorem isOf_ok {x : Str} {b : Bi} (h : isOf x = some b) : ∃ S : String, S ∈ ["tuple", "int", "bool", "str"] ∧ (∀ ds, evBi b ds = ev1 (bIs S) ds) ∧ bootBuiltins x = some (.type S) := by
  unfold isOf at h
  split at h
  · rename_i e; subst e; cases h; exact ⟨"tuple", by decide, fun _ => rfl, by decide +kernel⟩
  split at h
  · rename_i e; subst e; cases h; exact ⟨"int", by decide, fun _ => rfl, by decide +kernel⟩
  split at h
  · rename_i e; subst e; cases h; exact ⟨"bool", by decide, fun _ => rfl, by decide +kernel⟩
  split at h
  · rename_i e; subst e; cases h; exact ⟨"str", by decide, fun _ => rfl, by decide +kernel⟩
  · cases h
theorem EnvOk.bl (hE : EnvOk Γ T X) {x : Str} (h : T.blt.contains x = true) : X.mg x = none := hE.blt x (by simpa using h)
theorem cpRng_ok (hE : EnvOk Γ T X) {rec : Expr → Option Ex} (hr : RecOk Γ sa X rec) {e : Expr} {q : Ex × Ex} (hi : isRng X.env.scope T.blt e = true) (h : cpRng rec e = some q) :
    okE e = true ∧ ∃ t, L2.PRg X e t ∧ ∀ {σ : L2.St} {H : Hp} {Q : Int → Int → Hp → Prop}, tDR sa (evR Γ q.1 q.2) σ H Q → t σ H Q := by
  unfold cpRng at h
  split at h
  · simp only [isRng, Bool.and_eq_true, beq_iff_eq] at hi
    obtain ⟨⟨rfl, h2⟩, h3⟩ := hi
    simp only [Option.bind_eq_some_iff] at h
    obtain ⟨c, h4, h5⟩ := h
    split at h5
    · cases h5
    · rename_i hn
      cases h5
      exact ⟨rfl, dr_1 Γ (glB_is h2) (hE.bl h3) (hr _ _ h4) (isNop_ne (by simpa using hn))⟩
  · simp only [isRng, Bool.and_eq_true, beq_iff_eq] at hi
    obtain ⟨⟨rfl, h2⟩, h3⟩ := hi
    simp only [Option.bind_eq_some_iff] at h
    obtain ⟨c, h4, d, h6, h5⟩ := h
    split at h5
    · cases h5
    · rename_i hn
      cases h5
      simp only [Bool.or_eq_true, not_or, Bool.not_eq_true] at hn
      exact ⟨rfl, dr_2 Γ (glB_is h2) (hE.bl h3) (hr _ _ h4) (isNop_ne hn.1) (hr _ _ h6) (isNop_ne hn.2)⟩
  · cases h
theorem cpCall_ok (hE : EnvOk Γ T X) {rec : Expr → Option Ex} (hr : RecOk Γ sa X rec) {f : Expr} {args : List Expr} {pos : Pos} {c : Ex} (h : cpCall T rec X.env.scope f args pos = some c) : DE X sa (.Call f args [] pos) (eval Γ c) := by
  have hu := hE.units
  unfold cpCall at h
  split at h
  · rename_i x p
    split at h
    rotate_left
    · cases h
    rename_i hgn
    simp only [Bool.and_eq_true] at hgn
    have hg := glB_is hgn.1
    obtain ⟨hn1, hn2, hn3⟩ := nameOk_is hgn.2
    split at h
    · rename_i i n b hl
      split at h
      rotate_left
      · cases h
      rename_i hc
      simp only [Bool.and_eq_true, decide_eq_true_eq, Bool.not_eq_true'] at hc
      obtain ⟨hc1, hc2⟩ := hc
      simp only [Option.map_eq_some_iff] at h
      obtain ⟨cs, h1, h2⟩ := h
      cases args with
      | nil => cases hc2
      | cons e es =>
        cases b with
        | false =>
          simp only [Bool.false_eq_true, if_false] at h2
          subst h2
          obtain ⟨F, hF, hΓ⟩ := (hE.fns x i n false hl).1 rfl
          exact de_call Γ hF hΓ hE.guards hg (cpAs_f hr h1) hc1 hn1
        | true =>
          simp only [if_true] at h2
          subst h2
          obtain ⟨F, hF, hΓ⟩ := (hE.fns x i n true hl).2 rfl
          exact de_callS Γ hF hΓ hE.guards hg (cpAs_a hr h1) hc1 hn1
    · split at h
      rotate_left
      · cases h
      rename_i hb
      have hm := hE.bl hb
      split at h
      · rename_i hx
        subst hx
        split at h
        · rename_i e t pt
          split at h
          rotate_left
          · cases h
          rename_i ht
          simp only [Bool.and_eq_true] at ht
          obtain ⟨⟨ht1, ht2⟩, ht3⟩ := ht
          simp only [Option.bind_eq_some_iff, Option.map_eq_some_iff] at h
          obtain ⟨b, h1, c', h2, rfl⟩ := h
          obtain ⟨S, hS, hSb, hSv⟩ := isOf_ok h1
          obtain ⟨q1, q2, q3⟩ := nameOk_is ht3
          exact de_isi Γ hS hSb hg hm (glB_is ht1) (hE.bl ht2) hSv q3 q1 (hr _ _ h2)
        · cases h
      split at h
      · rename_i hx
        subst hx
        split at h
        · rename_i e
          simp only [Option.map_eq_some_iff] at h
          obtain ⟨cs, h1, rfl⟩ := h
          exact de_biT Γ (call_dict hE.calm (by omega)) serves_dict hg hm (by decide +kernel) (by decide) (by decide) (cpAs_v hr h1)
        · cases h
      · split at h
        · cases h
        · rename_i e es
          split at h
          · rename_i hq
            simp only [Bool.and_eq_true, Bool.or_eq_true, beq_iff_eq, List.isEmpty_iff] at hq
            obtain ⟨⟨rfl, hq2⟩, hq3⟩ := hq
            simp only [Option.map_eq_some_iff] at h
            obtain ⟨q, h1, rfl⟩ := h
            obtain ⟨hok, hq⟩ := cpRng_ok hE hr hq2 h1
            refine de_rngL Γ hE.calm ?_ hg hm hok hq
            rcases hq3 with rfl | rfl
            · rfl
            · rfl
          · simp only [Option.bind_eq_some_iff, Option.map_eq_some_iff] at h
            obtain ⟨b, h1, cs, h2, rfl⟩ := h
            exact bi_ok hE h1 hg hm (cpAs_v hr h2)
  · rename_i x p m apos
    split at h
    rotate_left
    · cases h
    rename_i hgn
    simp only [Bool.and_eq_true] at hgn
    obtain ⟨⟨hv, hn⟩, hl⟩ := hgn
    obtain ⟨hn1, hn2, hn3⟩ := nameOk_is hn
    simp only [Option.bind_eq_some_iff] at h
    obtain ⟨i, hi, h⟩ := h
    have hN := ixOf_some hi
    rw [← hE.names] at hN
    split at h
    · rename_i hm
      subst hm
      split at h
      · cases h
        exact de_pop0 Γ hN (visB_is hv) hn1 hn2 hl
      · simp only [Option.bind_eq_some_iff] at h
        obtain ⟨c', h1, h2⟩ := h
        split at h2
        · cases h2
        · rename_i hc
          cases h2
          exact de_pop1 Γ hN (visB_is hv) hn1 hn2 hl (hr _ _ h1) (isNop_ne (by simpa using hc))
      · cases h
    · split at h
      · rename_i hm
        subst hm
        split at h
        · simp only [Option.map_eq_some_iff] at h
          obtain ⟨c', h1, rfl⟩ := h
          exact de_index Γ (by omega) hN (visB_is hv) hn1 hn2 hl (hr _ _ h1)
        · cases h
      · split at h
        · rename_i hm
          subst hm
          split at h
          · simp only [Option.bind_eq_some_iff, Option.map_eq_some_iff] at h
            obtain ⟨c1, h1, c2, h2, rfl⟩ := h
            exact de_get2 Γ (by omega) hN (visB_is hv) hn1 hn2 hl (hr _ _ h1) (hr _ _ h2)
          · cases h
        · cases h
  · cases h
theorem cpSub_ok (hE : EnvOk Γ T X) {rec : Expr → Option Ex} (hr : RecOk Γ sa X rec) {a b : Expr} {pos : Pos} {c : Ex} (h : cpSub rec a b = some c) : DE X sa (.Subscript a b pos) (eval Γ c) := by
  unfold cpSub at h
  split at h
  · simp only [Option.map_eq_some_iff] at h
    obtain ⟨c', h1, rfl⟩ := h
    exact de_rev Γ (hr _ _ h1)
  · simp only [Option.bind_eq_some_iff, Option.map_eq_some_iff] at h
    obtain ⟨c', h1, l, h2, hh, h3, rfl⟩ := h
    exact de_slc Γ (hr _ _ h1) (cpO_ok hr h2) (cpO_ok hr h3)
  · cases h
  · simp only [Option.bind_eq_some_iff, Option.map_eq_some_iff] at h
    obtain ⟨c', h1, d, h2, rfl⟩ := h
    exact de_idx Γ (by have := hE.units; omega) (hr _ _ h1) (hr _ _ h2)
theorem locB_is {all : Bool} {cells : Str → Bool} {x : Str} (ha : all = true → ∀ y, X.fn y = true) (hc : ∀ y, cells y = true → X.fn y = true) (h : locB all cells X.env.scope x = true) : Loc X.env.scope x ∧ (X.fn x = true ∨ X.env.scope.names.lookup x = some .local) := by
  unfold locB at h
  split at h
  · rename_i e; exact ⟨.inl e, .inr e⟩
  · rename_i e
    refine ⟨.inr e, .inl ?_⟩
    rcases Bool.or_eq_true _ _ ▸ h with h | h
    · exact ha h x
    · exact hc x h
  · cases h
mutual
theorem cpT_ok (hE : EnvOk Γ T X) {all : Bool} {cells : Str → Bool} (ha : all = true → ∀ y, X.fn y = true) (hc : ∀ y, cells y = true → X.fn y = true) : ∀ {n : Nat} {e : Expr} {t : Tg}, cpT T.N all cells X.env.scope n e = some t → DG X sa e t
  | 0, _, _, h => by cases h
  | n + 1, e, t, h => by
    simp only [cpT] at h
    split at h
    · split at h
      · rename_i hl
        simp only [Option.map_eq_some_iff] at h
        obtain ⟨i, h1, rfl⟩ := h
        obtain ⟨l1, l2⟩ := locB_is ha hc hl
        exact dg_name hE.nodup (by rw [hE.names]; exact ixOf_some h1) l1 l2
      · cases h
    · simp only [Option.map_eq_some_iff] at h
      obtain ⟨ts, h1, rfl⟩ := h
      exact dg_tup hE.calm (cpTs_ok hE ha hc (n := n) h1)
    · cases h
theorem cpTs_ok (hE : EnvOk Γ T X) {all : Bool} {cells : Str → Bool} (ha : all = true → ∀ y, X.fn y = true) (hc : ∀ y, cells y = true → X.fn y = true) : ∀ {n : Nat} {es : List Expr} {ts : List Tg}, cpT.cpTs (cpT T.N all cells X.env.scope n) es = some ts → DGs X sa es ts
  | n, [], ts, h => by
    simp only [cpT.cpTs] at h
    cases h
    exact dgs_nil
  | n, e :: r, ts, h => by
    simp only [cpT.cpTs, Option.bind_eq_some_iff, Option.map_eq_some_iff] at h
    obtain ⟨t, h1, ts', h2, rfl⟩ := h
    exact dgs_cons (cpT_ok hE ha hc (n := n) h1) (cpTs_ok hE ha hc (n := n) h2)
end
theorem cpI_ok (hE : EnvOk Γ T X) {rec : Expr → Option Ex} (hr : RecOk Γ sa X rec) {tg e : Expr} {i : Itx} (h : cpI rec X.env.scope T.blt tg e = some i) : DI X sa tg e (evalI Γ i) := by
  have sq : ∀ {e : Expr} {i : Itx}, (rec e).map .seq = some i → DI X sa tg e (evalI Γ i) := fun {e i} h => by
    simp only [Option.map_eq_some_iff] at h
    obtain ⟨c, h1, rfl⟩ := h
    exact di_seq Γ (hr _ _ h1)
  unfold cpI at h
  split at h
  · split at h
    · rename_i hgb
      simp only [Bool.and_eq_true] at hgb
      have hg := glB_is (X := X) hgb.1
      have hm := hE.bl hgb.2
      split at h
      · rename_i hx
        subst hx
        split at h
        · simp only [Option.map_eq_some_iff] at h
          obtain ⟨c, h1, rfl⟩ := h
          exact di_rng1 Γ hg hm (hr _ _ h1)
        · simp only [Option.bind_eq_some_iff, Option.map_eq_some_iff] at h
          obtain ⟨c, h1, d, h2, rfl⟩ := h
          exact di_rng2 Γ hg hm (hr _ _ h1) (hr _ _ h2)
        · cases h
      split at h
      · rename_i hx
        subst hx
        split at h
        · split at h
          · rename_i ht
            simp only [Option.map_eq_some_iff] at h
            obtain ⟨c, h1, rfl⟩ := h
            cases tg <;> first
              | exact di_enm Γ hg hm (hr _ _ h1)
              | cases ht
          · cases h
        · cases h
      split at h
      · rename_i hx
        subst hx
        split at h
        · split at h
          · rename_i ht
            simp only [Option.bind_eq_some_iff, Option.map_eq_some_iff] at h
            obtain ⟨c, h1, d, h2, rfl⟩ := h
            cases tg <;> first
              | exact di_zip Γ hg hm (hr _ _ h1) (hr _ _ h2)
              | cases ht
          · cases h
        · cases h
      · exact sq h
    · exact sq h
  · split at h
    rotate_left
    · cases h
    rename_i hc
    simp only [Bool.and_eq_true, decide_eq_true_eq] at hc
    obtain ⟨⟨⟨⟨rfl, rfl⟩, h1⟩, h2⟩, ht⟩ := hc
    simp only [Option.bind_eq_some_iff, Option.map_eq_some_iff] at h
    obtain ⟨c, h3, d, h4, rfl⟩ := h
    cases tg <;> first
      | exact di_zipS Γ (glB_is (X := X) h1) (hE.bl h2) (hr _ _ h3) (hr _ _ h4)
      | cases ht
  · exact sq h
theorem cpIfs_ok {rec : Expr → Option Ex} (hr : RecOk Γ sa X rec) {es : List Expr} {c : Ex} (h : cpIfs rec es = some c) : PTs X es (tDC sa (evalC Γ c)) := by
  unfold cpIfs at h
  split at h
  · cases h
    exact dc_nil Γ
  · simp only [Option.bind_eq_some_iff] at h
    obtain ⟨d, h1, h2⟩ := h
    split at h2
    · cases h2
    · rename_i hn
      cases h2
      exact dc_one Γ (hr _ _ h1) (isNop_ne (by simpa using hn))
  · cases h
theorem cpK_ok (hE : EnvOk Γ T X) {tg it : Expr} {itx : Itx} (h : cpK T.N T.dts X.env.scope tg it = some itx) : ∃ items i, KOk Γ X sa tg it itx items i := by
  unfold cpK at h
  split at h
  · split at h
    rotate_left
    · cases h
    rename_i hv
    simp only [Bool.and_eq_true] at hv
    obtain ⟨⟨_, hv⟩, hn⟩ := hv
    obtain ⟨q1, q2, _⟩ := nameOk_is hn
    simp only [Option.map_eq_some_iff] at h
    obtain ⟨i, hi, rfl⟩ := h
    exact ⟨false, i, pi_dk (by rw [hE.names]; exact ixOf_some hi) (visB_is hv) q1 q2, (fun _ => rfl), (fun st ds p2 e => ev_dk Γ e)⟩
  · split at h
    rotate_left
    · cases h
    rename_i hv
    simp only [Bool.and_eq_true, decide_eq_true_eq] at hv
    obtain ⟨⟨⟨⟨rfl, hv⟩, hn⟩, hl⟩, ht⟩ := hv
    obtain ⟨q1, q2, _⟩ := nameOk_is hn
    simp only [Option.map_eq_some_iff] at h
    obtain ⟨i, hi, rfl⟩ := h
    cases tg <;> first
      | exact ⟨true, i, pi_di (by rw [hE.names]; exact ixOf_some hi) (visB_is hv) q1 q2 hl, fun _ => rfl, fun st ds p2 e => ev_di Γ e⟩
      | cases ht
  · cases h
theorem cpLc_ok (hE : EnvOk Γ T X) {rec : Scope → Expr → Option Ex} (hr : ∀ X', EnvOk Γ T X' → RecOk Γ sa X' (rec X'.env.scope)) {elt tg it : Expr} {ifs : List Expr} {scope : Scope} {q : List Nat × Tg × Itx × Ex × Ex} (h : cpLc T rec X.env.scope elt tg it ifs scope = some q) :
    q.1 = (ownOf T.N scope.names).map (·.2) ∧ (DL (X := X) (sa := sa) Γ tg it ifs elt scope (ownOf T.N scope.names) q.2.1 q.2.2.1 q.2.2.2.1 q.2.2.2.2 ∨
      ∃ items k, DLK Γ X sa tg it ifs elt scope (ownOf T.N scope.names) q.2.1 q.2.2.1 q.2.2.2.1 q.2.2.2.2 items k) := by
  unfold cpLc at h
  split at h
  rotate_left
  · cases h
  rename_i hb
  simp only [Option.bind_eq_some_iff] at h
  obtain ⟨t, ht, h⟩ := h
  split at h
  rotate_left
  · cases h
  rename_i hs
  simp only [Option.bind_eq_some_iff, Option.map_eq_some_iff] at h
  obtain ⟨i, hi, c, hc, e, he, rfl⟩ := h
  have bk : ∀ (s : Shared) (H : Hp) (C : Addr) (cl : List (Str × Addr)) (fp : List Addr), EnvOk Γ T (blkX X scope s H C cl fp) ∧ (blkX X scope s H C cl fp).env.scope = L2.relS scope X.env.scope := fun s H C cl fp => ⟨hE.blk scope s H C cl fp, rfl⟩
  have q1 : ∀ (s : Shared) (H : Hp) (C : Addr) (cl : List (Str × Addr)) (fp : List Addr), DG (blkX X scope s H C cl fp) sa tg t := fun s H C cl fp => cpT_ok (bk s H C cl fp).1 (fun z => by cases z) (fun y hy => hy) ht
  have q2 : ∀ (s : Shared) (H : Hp) (C : Addr) (cl : List (Str × Addr)) (fp : List Addr), PTs (blkX X scope s H C cl fp) ifs (tDC sa (evalC Γ c)) := fun s H C cl fp => cpIfs_ok (hr _ (bk s H C cl fp).1) hc
  have q3 : ∀ (s : Shared) (H : Hp) (C : Addr) (cl : List (Str × Addr)) (fp : List Addr), DE (blkX X scope s H C cl fp) sa elt (eval Γ e) := fun s H C cl fp => hr _ (bk s H C cl fp).1 _ _ he
  have q4 : ∀ i ∈ tgSlots t, i ∈ (ownOf T.N scope.names).map (·.2) := fun j hj => by
    have := List.all_eq_true.mp hs j hj
    simpa using this
  have q5 : BlkOk X.N X.env.scope scope (ownOf T.N scope.names) := L2.blkOk_by (by rw [hE.names]; exact hb)
  unfold cpKI at hi
  split at hi
  · rename_i i' _ hk
    cases hi
    obtain ⟨items, k, p1⟩ := cpK_ok (sa := sa) (Γ := Γ) hE hk
    exact ⟨rfl, .inr ⟨items, k, p1, q5, q1, q2, q3, q4⟩⟩
  · exact ⟨rfl, .inl ⟨cpI_ok hE (hr X hE) hi, q5, q1, q2, q3, q4⟩⟩
theorem sfOf_is {k : Str} {f : Sf} (h : sfOf k = some f) : k = sfKey f := by
  unfold sfOf at h
  split at h
  · rename_i e; cases h; exact e
  split at h
  · rename_i e; cases h; exact e
  split at h
  · rename_i e; cases h; exact e
  · cases h
theorem srcE_ok (hE : EnvOk Γ T X) {e : Expr} {c : Ex} (h : srcE T X.env.scope e = some c) : DE X sa e (eval Γ c) := by
  have hu := hE.units
  unfold srcE at h
  split at h
  · split at h
    rotate_left
    · cases h
    rename_i hv
    simp only [Bool.and_eq_true] at hv
    obtain ⟨q1, q2, _⟩ := nameOk_is hv.2
    simp only [Option.bind_eq_some_iff, Option.map_eq_some_iff] at h
    obtain ⟨i, hi, f, hf, rfl⟩ := h
    rw [sfOf_is hf]
    exact de_sget Γ (by omega) (by rw [hE.names]; exact ixOf_some hi) (visB_is hv.1) q1 q2
  · split at h
    rotate_left
    · cases h
    rename_i hv
    simp only [Bool.and_eq_true, decide_eq_true_eq] at hv
    obtain ⟨⟨⟨⟨⟨rfl, rfl⟩, h1⟩, h2⟩, h3⟩, h4⟩ := hv
    obtain ⟨q1, q2, _⟩ := nameOk_is h4
    simp only [Option.map_eq_some_iff] at h
    obtain ⟨i, hi, rfl⟩ := h
    exact de_slen Γ (by omega) (glB_is h1) (hE.bl h2) (by rw [hE.names]; exact ixOf_some hi) (visB_is h3) q1 q2
  · split at h
    rotate_left
    · cases h
    rename_i hv
    simp only [Bool.and_eq_true, decide_eq_true_eq] at hv
    obtain ⟨⟨⟨⟨rfl, rfl⟩, h3⟩, h4⟩, h5⟩ := hv
    obtain ⟨q1, q2, _⟩ := nameOk_is h4
    simp only [Option.map_eq_some_iff] at h
    obtain ⟨i, hi, rfl⟩ := h
    exact de_spop Γ (by omega) (by rw [hE.names]; exact ixOf_some hi) (visB_is h3) q1 q2 h5
  · cases h
theorem cpE_ok : ∀ (n : Nat) (X : Cx), EnvOk Γ T X → RecOk Γ sa X (cpE T n X.env.scope)
  | 0, _, _, _, _, h => by cases h
  | n + 1, X, hE, e, c, h => by
    have ih := cpE_ok n
    have hr := ih X hE
    have hu := hE.units
    simp only [cpE] at h
    split at h
    · rename_i c' hs
      cases h
      exact srcE_ok hE hs
    split at h
    · split at h
      · rename_i hv
        simp only [Bool.and_eq_true] at hv
        obtain ⟨q1, q2, q3⟩ := nameOk_is hv.2
        simp only [Option.map_eq_some_iff] at h
        obtain ⟨i, h1, rfl⟩ := h
        exact de_var Γ (by rw [hE.names]; exact ixOf_some h1) (visB_is hv.1) q1 q2
      · cases h
    · cases h; exact de_int Γ
    · cases h; exact de_bool Γ
    · cases h; exact de_str Γ
    · cases h; exact de_none Γ
    · simp only [Option.map_eq_some_iff] at h
      obtain ⟨cs, h1, rfl⟩ := h
      exact de_tup Γ (cpEs_ok hr h1)
    · simp only [Option.map_eq_some_iff] at h
      obtain ⟨cs, h1, rfl⟩ := h
      exact de_lst Γ (cpEs_ok hr h1)
    · simp only [Option.bind_eq_some_iff, Option.map_eq_some_iff] at h
      obtain ⟨o, h1, c1, h2, c2, h3, rfl⟩ := h
      exact de_bin Γ (opOf_is h1) (hr _ _ h2) (hr _ _ h3)
    · simp only [Option.map_eq_some_iff] at h
      obtain ⟨c1, h1, rfl⟩ := h
      exact de_neg Γ (hr _ _ h1)
    · simp only [Option.map_eq_some_iff] at h
      obtain ⟨c1, h1, rfl⟩ := h
      exact de_not Γ (hr _ _ h1)
    · simp only [Option.bind_eq_some_iff, Option.map_eq_some_iff] at h
      obtain ⟨o, h1, c1, h2, c2, h3, rfl⟩ := h
      exact de_cmp Γ (by omega) (cmpOf_is h1) (hr _ _ h2) (hr _ _ h3)
    · simp only [Option.bind_eq_some_iff, Option.map_eq_some_iff] at h
      obtain ⟨o, h1, o', h1', c1, h2, c2, h3, c3, h4, rfl⟩ := h
      exact de_chain Γ (by omega) (cmpOf_is h1) (cmpOf_is h1') (hr _ _ h2) (hr _ _ h3) (hr _ _ h4)
    · exact (cpBool_ok hr h).de
    · simp only [Option.bind_eq_some_iff, Option.map_eq_some_iff] at h
      obtain ⟨c1, h2, c2, h3, c3, h4, rfl⟩ := h
      exact de_ite Γ (hr _ _ h2) (hr _ _ h3) (hr _ _ h4)
    · exact cpSub_ok hE hr h
    · exact cpCall_ok hE hr h
    · cases h
      cases T.dts.contains _ with
      | true => exact de_dnewT Γ
      | false => exact de_dnewK Γ
    · simp only [Option.bind_eq_some_iff, Option.map_eq_some_iff] at h
      obtain ⟨c1, h2, c2, h3, rfl⟩ := h
      exact de_ddisp Γ (hr _ _ h2) (hr _ _ h3)
    · simp only [Option.map_eq_some_iff] at h
      obtain ⟨q, h1, rfl⟩ := h
      obtain ⟨e1, hd⟩ := cpLc_ok hE (fun X' hE' => ih X' hE') h1
      rw [e1]
      rcases hd with hd | ⟨_, _, hd⟩
      · exact de_comp Γ hE.calm hE.nodup hd
      · exact de_compK Γ hE.calm hE.nodup hd
    · cases h
end
end Pf

set_option maxRecDepth 100000
/-! Pf11: from the text to the core, statements. -/
namespace Pf
open PySem PySem.Spec PyProof.Rows
open L2 (V Hp HO upd upd_same upd_ne Same SqL SqT Dp DpAll Key Vals Cx Inv OpR R2 VK PE PT PA PS PSs PI PG PGs PTs PSet PGet PIp TE TT TA TS TI TG TGs TIp It RelV EP Vis Loc Gl Room Env0 CE CallR tCB TyOf TyX wipe BlkOk Ends)
def isComp : Expr → Bool
  | .ListComp .. => true
  | .SetComp .. => true
  | .DictComp .. => true
  | _ => false
theorem sw_no {e : Expr} {t : Option Expr} {l : Nat} {env : Env} (h : isComp e = false) : swapsWith e t l env = pure false := by
  cases e <;> first
    | rfl
    | cases h
def isTup : Expr → Bool
  | .Tuple .. => true
  | _ => false
theorem sole_no {tg e : Expr} {l : Nat} {env : Env} (h : isComp e = false) : swapsWithSole [tg] e l env = pure false := sw_no h
/-- which names are stored from the right -/
def swC (sc : Scope) (ts vs : List Expr) : Option (Option (List Str)) :=
  if !(ts.length == 2 || ts.length == 3) || vs.length != ts.length then some none else
  if vs.any (fun | .Starred .. => true | _ => false) then some none else
  let line := (ts.head?.map (·.pos.line)).getD 0
  let names := ts.filterMap fun
    | .Name id pos => if sc.names.lookup id == some .local && pos.line == line then some id else none
    | _ => none
  if names.length != ts.length || names.eraseDups.length != names.length then some none else
  if vs.all (foldedForSure 8) then some none else
  if vs.all (constantsAlone 8) then none else some (some names)
theorem swC_ok {ts vs : List Expr} {k k2 : Nat} {pt pt2 : Pos} {env : Env} {r : Option (List Str)} (hk : env.scope.kind = .function) (h : swC env.scope ts vs = some r) : swappedStores [.Tuple ts k pt] (.Tuple vs k2 pt2) env = pure r := by
  have hb : env.blockKind = .function := by unfold Env.blockKind; rw [hk]; rfl
  unfold swC at h
  dsimp only at h
  unfold swappedStores
  simp only [hb]
  have hl : ∀ x, env.kindOf x = env.scope.names.lookup x := fun _ => rfl
  simp only [hl]
  have e0 : (ScopeKind.function != ScopeKind.function) = false := rfl
  simp only [e0, Bool.or_false]
  split at h
  · rename_i h1
    cases h
    exact if_pos h1
  rename_i h1
  refine (if_neg h1).trans ?_
  split at h
  · rename_i h2
    cases h
    exact if_pos h2
  rename_i h2
  refine (if_neg h2).trans ?_
  split at h
  · rename_i h3
    cases h
    exact if_pos h3
  rename_i h3
  refine (if_neg h3).trans ?_
  split at h
  · rename_i h4
    cases h
    exact if_pos h4
  rename_i h4
  refine (if_neg h4).trans ?_
  split at h
  · cases h
  rename_i h5
  cases h
  exact if_neg h5
/-- a list comprehension's value goes to the name at once, or it does not -/
theorem sw_lc {elt : Expr} {gs : List Comprehension} {scope : Scope} {pos py : Pos} {y : Str} {l : Nat} {env : Env} (hk : env.scope.kind = .function) :
    swapsWith (.ListComp elt gs scope pos) (some (.Name y py)) l env = pure (env.scope.names.lookup y == some .local && py.line == pos.line && !(scope.names.any fun (n, k) => n == y && (k == .local || k == .cell))) := by
  have hb : env.blockKind = .function := by unfold Env.blockKind; rw [hk]; rfl
  unfold swapsWith
  simp only [hb]
  rfl
variable (T : Tb)
def dep : Nat := 24
def isApp (m : Str) : Bool := m == ("append" : Str) || m == ("extend" : Str)
def cpSet (sc : Scope) (x : Str) (e : Expr) : Option Sm :=
  if locB true (fun _ => false) sc x then (ixOf x T.N).bind fun i => match e with
    | .ListComp elt [⟨tg, it, ifs, 0⟩] scope _ => (cpLc T (cpE T dep) sc elt tg it ifs scope).map fun q => .set i (.comp q.1 q.2.1 q.2.2.1 q.2.2.2.1 q.2.2.2.2)
    | e => if isComp e then none else (cpE T dep sc e).map (.set i)
  else none
def cpTup (sc : Scope) (tg e : Expr) : Option Sm := if isComp e then none else (cpT T.N true (fun _ => false) sc 8 tg).bind fun t => (cpE T dep sc e).map (.asgT t)
def isSub : Expr → Bool
  | .Subscript .. => true
  | _ => false
def cpX1 (sc : Scope) : Expr → Option Tgx
  | .Name x _ => if locB true (fun _ => false) sc x then (ixOf x T.N).map .nm else none
  | .Subscript (.Name x _) b _ => if visB sc x && nameOk x then (ixOf x T.N).bind fun i => (cpE T dep sc b).map (.ix i) else none
  | _ => none
def cpXs (sc : Scope) : List Expr → Option (List Tgx)
  | [] => some []
  | e :: r => (cpX1 T sc e).bind fun t => (cpXs sc r).map fun ts => t :: ts
def cpAsgT (sc : Scope) (ts : List Expr) (k : Nat) (pt : Pos) (e : Expr) : Option Sm := match e with
  | .Tuple vs _ _ => (swC sc ts vs).bind fun r => match r with
    | none => if ts.any isSub || (ts.length == 4) then (cpXs T sc ts).bind fun tx => (cpAs (cpE T dep sc) vs).map (.asgX tx) else cpTup T sc (.Tuple ts k pt) e
    | some names => match ts, vs with
      | [.Name x _, .Name y _], [_, _] => (ixOf x T.N).bind fun i => (ixOf y T.N).bind fun j => (cpAs (cpE T dep sc) vs).bind fun cs =>
        if names = [x, y] && i != j && sc.names.lookup x == some .local && sc.names.lookup y == some .local then some (.asgN [i, j] cs) else none
      | [.Name x _, .Name y _, .Name z _], [_, _, _] => (ixOf x T.N).bind fun i => (ixOf y T.N).bind fun j => (ixOf z T.N).bind fun l => (cpAs (cpE T dep sc) vs).bind fun cs =>
        if names = [x, y, z] && i != j && i != l && j != l && sc.names.lookup x == some .local && sc.names.lookup y == some .local && sc.names.lookup z == some .local then some (.asgN [i, j, l] cs) else none
      | _, _ => none
  | e => cpTup T sc (.Tuple ts k pt) e
def cpSetI (sc : Scope) (x : Str) (b e : Expr) : Option Sm := if visB sc x && nameOk x && !isComp e then (ixOf x T.N).bind fun i => match b with
  | .Constant (.str k) _ _ => (sfOf k).bind fun f => (cpE T dep sc e).map (.sset i f)
  | b => (cpE T dep sc b).bind fun cb => (cpE T dep sc e).map (.setI i cb) else none
def augOf : Operator → Option Op2
  | .Add => some .add
  | .Sub => some .sub
  | .Mult => some .mul
  | _ => none
def cpAug (sc : Scope) (tg : Expr) (op : Operator) (e : Expr) : Option Sm := match tg with
  | .Name x _ => if locB true (fun _ => false) sc x then (ixOf x T.N).bind fun i => (augOf op).bind fun o => (cpE T dep sc e).map (.augN i o) else none
  | .Subscript (.Name x _) b _ => if visB sc x && nameOk x then (ixOf x T.N).bind fun i => (augOf op).bind fun o => (cpE T dep sc b).bind fun cb => (cpE T dep sc e).map (.augI i cb o) else none
  | _ => none
def cpXp (sc : Scope) (e : Expr) : Option Sm := match e with
  | .Constant (.str _) _ _ => some .pass
  | .Call (.Attribute (.Name x _) m apos) [a] [] cpos => if isApp m then
      if visB sc x && nameOk x && (apos.endLine == cpos.line) then (ixOf x T.N).bind fun i => (cpE T dep sc a).map fun c => if m = "append" then .app i c else .ext i c else none
    else (cpE T dep sc e).map .expr
  | e => if isComp e then none else (cpE T dep sc e).map .expr
def tmpOf (T : Tb) (l : Nat) : List Nat := (T.tmp.lookup l).getD []
def cpSs (rec : Stmt → Option Sm) : List Stmt → Option Sms
  | [] => some .nil
  | s :: r => (rec s).bind fun c => (cpSs rec r).map (.cons c)
def cpS (sc : Scope) : Nat → Stmt → Option Sm
  | 0, _ => none
  | n + 1, s => match s with
    | .Pass _ => some .pass
    | .Break _ => some .brk
    | .Continue _ => some .cnt
    | .Return (some e) _ => (cpE T dep sc e).map .ret
    | .Return none _ => some (.ret (.cst .none))
    | .Assign [.Name x _] e _ => cpSet T sc x e
    | .Assign [.Tuple ts k pt] e _ => cpAsgT T sc ts k pt e
    | .Assign [.Subscript (.Name x _) b _] e _ => cpSetI T sc x b e
    | .AugAssign tg op e _ => cpAug T sc tg op e
    | .Expr e _ => cpXp T sc e
    | .If c a b _ => (cpE T dep sc c).bind fun x => (cpSs (cpS sc n) a).bind fun y => (cpSs (cpS sc n) b).map fun z => .ite x y z
    | .For tg it body [] pos => (cpT T.N true (fun _ => false) sc 8 tg).bind fun t => (cpKI (cpK T.N T.dts sc tg it) (cpI (cpE T dep sc) sc T.blt tg it)).bind fun i => (cpSs (cpS sc n) body).map fun c => .for (tmpOf T pos.line) t i c
    | .While c body [] pos => (cpE T dep sc c).bind fun x => (cpSs (cpS sc n) body).map fun y => .whl T.fuel (tmpOf T pos.line) x y
    | _ => none
section
variable {Γ : Nat → Fn} {T : Tb} {X : Cx} {sa : SA}
structure BodyOk (X : Cx) : Prop where
  kind : X.env.scope.kind = .function
  fn : ∀ y, X.fn y = true
  own : PassesOwn (model X.prog X.w) X.A X.env X.xe
theorem cpAs_k {rec : Expr → Option Ex} (hr : RecOk Γ sa X rec) : ∀ {es : List Expr} {cs : Exs}, cpAs rec es = some cs → DK X sa es (evalk Γ cs)
  | [], cs, h => by
    simp only [cpAs] at h
    cases h
    exact dk_nil Γ
  | e :: r, cs, h => by
    simp only [cpAs, Option.bind_eq_some_iff, Option.map_eq_some_iff] at h
    obtain ⟨c, h1, cs', h2, rfl⟩ := h
    exact dk_cons Γ (hr _ _ h1) (cpAs_k hr h2)
theorem loc_lookup {sc : Scope} {x : Str} (h : (sc.names.lookup x == some .local) = true) : sc.names.lookup x = some .local := by
  cases q : sc.names.lookup x with
  | none => rw [q] at h; cases h
  | some k =>
    rw [q] at h
    cases k <;> first
      | rfl
      | cases h
theorem cpSet_ok (hE : EnvOk Γ T X) (hB : BodyOk X) {x : Str} {e : Expr} {c : Sm} {p pos : Pos} (h : cpSet T X.env.scope x e = some c) : DS X sa (.Assign [.Name x p] e pos) (exec Γ c) := by
  have hr : RecOk Γ sa X (cpE T dep X.env.scope) := cpE_ok dep X hE
  unfold cpSet at h
  split at h
  rotate_left
  · cases h
  rename_i hl
  obtain ⟨l1, l2⟩ := locB_is (X := X) (fun _ => hB.fn) (fun _ z => by cases z) hl
  simp only [Option.bind_eq_some_iff] at h
  obtain ⟨i, hi, h⟩ := h
  have hN := ixOf_some hi
  rw [← hE.names] at hN
  split at h
  · rename_i elt tg it ifs scope lp
    simp only [Option.map_eq_some_iff] at h
    obtain ⟨q, h1, rfl⟩ := h
    obtain ⟨e1, hd⟩ := cpLc_ok hE (sa := sa) (fun X' hE' => cpE_ok dep X' hE') h1
    rw [e1]
    have hs := sw_lc (elt := elt) (gs := [⟨tg, it, ifs, 0⟩]) (scope := scope) (pos := lp) (py := p) (y := x) (l := pos.line) hB.kind
    cases hb : (X.env.scope.names.lookup x == some .local && p.line == lp.line && !(scope.names.any fun (n, k) => n == x && (k == .local || k == .cell))) with
    | true =>
      rw [hb] at hs
      simp only [Bool.and_eq_true] at hb
      rcases hd with hd | ⟨_, _, hd⟩
      · exact ds_setLc Γ hE.calm hE.nodup hN (loc_lookup hb.1.1) hs hd
      · exact ds_setLcK Γ hE.calm hE.nodup hN (loc_lookup hb.1.1) hs hd
    | false =>
      rw [hb] at hs
      rcases hd with hd | ⟨_, _, hd⟩
      · exact ds_set Γ hE.nodup hN l1 l2 (de_comp Γ hE.calm hE.nodup hd) hs
      · exact ds_set Γ hE.nodup hN l1 l2 (de_compK Γ hE.calm hE.nodup hd) hs
  · split at h
    · cases h
    rename_i hc
    simp only [Option.map_eq_some_iff] at h
    obtain ⟨c', h1, rfl⟩ := h
    exact ds_set Γ hE.nodup hN l1 l2 (hr _ _ h1) (sw_no (by simpa using hc))
theorem cpTup_ok (hE : EnvOk Γ T X) (hB : BodyOk X) {tg e : Expr} {c : Sm} {pos : Pos} (hw : swappedStores [tg] e X.env = pure none) (h : cpTup T X.env.scope tg e = some c) : DS X sa (.Assign [tg] e pos) (exec Γ c) := by
  have hr : RecOk Γ sa X (cpE T dep X.env.scope) := cpE_ok dep X hE
  unfold cpTup at h
  split at h
  · cases h
  rename_i hc
  simp only [Option.bind_eq_some_iff, Option.map_eq_some_iff] at h
  obtain ⟨t, h1, c', h2, rfl⟩ := h
  exact ds_asgT Γ (cpT_ok hE (fun _ => hB.fn) (fun _ z => by cases z) h1) (hr _ _ h2) (sole_no (by simpa using hc)) hw
theorem sw_none {ts : List Expr} {k : Nat} {pt : Pos} {e : Expr} {env : Env} (h : isTup e = false) : swappedStores [.Tuple ts k pt] e env = pure none := by
  cases e <;> first
    | rfl
    | cases h
theorem asg_sub {x : Str} {b : Expr} {p p2 : Pos} {env : Env} (h : okE b = true) : ∀ v, assign (.Subscript (.Name x p) b p2) env v = (do
      let ov ← holding [v] (PySem.eval (.Name x p) env)
      let iv ← holding [v, ov] (PySem.eval b env)
      standAt p2
      holding [v, ov, iv] (setItem ov iv v)
      release [v, ov, iv] []) := by
  intro v
  cases b <;> first
    | rfl
    | cases h
theorem cpX1_ok (hE : EnvOk Γ T X) (hB : BodyOk X) {e : Expr} {t : Tgx} (h : cpX1 T X.env.scope e = some t) : DX Γ X sa e t := by
  have hr : RecOk Γ sa X (cpE T dep X.env.scope) := cpE_ok dep X hE
  unfold cpX1 at h
  split at h
  · split at h
    rotate_left
    · cases h
    rename_i hl
    obtain ⟨l1, l2⟩ := locB_is (X := X) (fun _ => hB.fn) (fun _ z => by cases z) hl
    simp only [Option.map_eq_some_iff] at h
    obtain ⟨i, hi, rfl⟩ := h
    exact .nm hE.nodup (by rw [hE.names]; exact ixOf_some hi) l1 l2
  · split at h
    rotate_left
    · cases h
    rename_i hv
    simp only [Bool.and_eq_true] at hv
    obtain ⟨h1, h2⟩ := hv
    obtain ⟨q1, q2, q3⟩ := nameOk_is h2
    simp only [Option.bind_eq_some_iff, Option.map_eq_some_iff] at h
    obtain ⟨i, hi, cb, h4, rfl⟩ := h
    have hb := hr _ _ h4
    exact .ix (by rw [hE.names]; exact ixOf_some hi) (visB_is h1) q1 q2 hb (asg_sub hb.ok)
  · cases h
theorem cpXs_ok (hE : EnvOk Γ T X) (hB : BodyOk X) : ∀ {es : List Expr} {ts : List Tgx}, cpXs T X.env.scope es = some ts → DXs Γ X sa es ts
  | [], _, h => by
    simp only [cpXs] at h
    cases h
    exact .nil
  | e :: r, _, h => by
    simp only [cpXs, Option.bind_eq_some_iff, Option.map_eq_some_iff] at h
    obtain ⟨t, h1, ts, h2, rfl⟩ := h
    exact .cons (cpX1_ok hE hB h1) (cpXs_ok hE hB h2)
theorem cpAsgT_ok (hE : EnvOk Γ T X) (hB : BodyOk X) {ts : List Expr} {k : Nat} {pt : Pos} {e : Expr} {c : Sm} {pos : Pos} (h : cpAsgT T X.env.scope ts k pt e = some c) : DS X sa (.Assign [.Tuple ts k pt] e pos) (exec Γ c) := by
  have hr : RecOk Γ sa X (cpE T dep X.env.scope) := cpE_ok dep X hE
  unfold cpAsgT at h
  split at h
  · rename_i vs _ _
    simp only [Option.bind_eq_some_iff] at h
    obtain ⟨r, hs, h⟩ := h
    have hw := fun (k2 : Nat) (pt2 : Pos) => swC_ok (k := k) (k2 := k2) (pt := pt) (pt2 := pt2) hB.kind hs
    cases r with
    | none =>
      dsimp only at h
      split at h
      · simp only [Option.bind_eq_some_iff, Option.map_eq_some_iff] at h
        obtain ⟨tx, hx, cs, hcs, rfl⟩ := h
        exact ds_asgX Γ (by have := hE.units; omega) hE.calm (cpXs_ok hE hB hx) (cpAs_k hr hcs) (hw _ _)
      · exact cpTup_ok hE hB (hw _ _) h
    | some names =>
      dsimp only at h
      split at h
      · simp only [Option.bind_eq_some_iff] at h
        obtain ⟨i, hi, j, hj, cs, hcs, h⟩ := h
        split at h
        · rename_i hc
          cases h
          simp only [Bool.and_eq_true, decide_eq_true_eq, bne_iff_ne] at hc
          obtain ⟨⟨⟨rfl, h1⟩, h2⟩, h3⟩ := hc
          exact ds_par2 Γ hE.calm hE.nodup (by rw [hE.names]; exact ixOf_some hi) (by rw [hE.names]; exact ixOf_some hj) h1 (loc_lookup h2) (loc_lookup h3) (cpAs_k hr hcs) (hw _ _)
        · cases h
      · simp only [Option.bind_eq_some_iff] at h
        obtain ⟨i, hi, j, hj, l, hl, cs, hcs, h⟩ := h
        split at h
        · rename_i hc
          cases h
          simp only [Bool.and_eq_true, decide_eq_true_eq, bne_iff_ne] at hc
          obtain ⟨⟨⟨⟨⟨⟨rfl, h1⟩, h2⟩, h3⟩, h4⟩, h5⟩, h6⟩ := hc
          exact ds_par3 Γ hE.calm hE.nodup (by rw [hE.names]; exact ixOf_some hi) (by rw [hE.names]; exact ixOf_some hj) (by rw [hE.names]; exact ixOf_some hl) h1 h2 h3 (loc_lookup h4) (loc_lookup h5) (loc_lookup h6) (cpAs_k hr hcs) (hw _ _)
        · cases h
      · cases h
  · rename_i hne
    refine cpTup_ok hE hB (sw_none ?_) h
    cases e <;> first
      | rfl
      | exact absurd rfl (hne _ _ _)
theorem augOf_is {op : Operator} {o : Op2} (h : augOf op = some o) : augAst o = some op := by
  cases op <;> simp only [augOf, reduceCtorEq, Option.some.injEq] at h <;> subst h <;> rfl
theorem aug_sub {b : Expr} (h : okE b = true) : ∀ ov iv new, augStore b ov iv new = (do holding [new, ov, iv] (setItem ov iv new); release [new, ov, iv] []; pure .next) := by
  intro ov iv new
  cases b <;> first
    | rfl
    | cases h
theorem cpSetI_ok (hE : EnvOk Γ T X) {x : Str} {b e : Expr} {c : Sm} {p p2 pos : Pos} (h : cpSetI T X.env.scope x b e = some c) : DS X sa (.Assign [.Subscript (.Name x p) b p2] e pos) (exec Γ c) := by
  have hr : RecOk Γ sa X (cpE T dep X.env.scope) := cpE_ok dep X hE
  unfold cpSetI at h
  split at h
  rotate_left
  · cases h
  rename_i hv
  simp only [Bool.and_eq_true, Bool.not_eq_true'] at hv
  obtain ⟨⟨h1, h2⟩, h3⟩ := hv
  obtain ⟨q1, q2, q3⟩ := nameOk_is h2
  simp only [Option.bind_eq_some_iff] at h
  obtain ⟨i, hi, h⟩ := h
  have hu := hE.units
  split at h
  · simp only [Option.bind_eq_some_iff, Option.map_eq_some_iff] at h
    obtain ⟨f, hf, c', h5, rfl⟩ := h
    rw [sfOf_is hf]
    exact ds_sset Γ (by omega) (by rw [hE.names]; exact ixOf_some hi) (visB_is h1) q1 q2 (hr _ _ h5) (sw_no h3)
  · simp only [Option.bind_eq_some_iff, Option.map_eq_some_iff] at h
    obtain ⟨cb, h4, c', h5, rfl⟩ := h
    have hb := hr _ _ h4
    exact ds_setI Γ (by omega) (by rw [hE.names]; exact ixOf_some hi) (visB_is h1) q1 q2 hb (hr _ _ h5) (asg_sub hb.ok) (sw_no h3)
theorem cpAug_ok (hE : EnvOk Γ T X) (hB : BodyOk X) {tg e : Expr} {op : Operator} {c : Sm} {pos : Pos} (h : cpAug T X.env.scope tg op e = some c) : DS X sa (.AugAssign tg op e pos) (exec Γ c) := by
  have hr : RecOk Γ sa X (cpE T dep X.env.scope) := cpE_ok dep X hE
  unfold cpAug at h
  split at h
  · split at h
    rotate_left
    · cases h
    rename_i hl
    obtain ⟨l1, l2⟩ := locB_is (X := X) (fun _ => hB.fn) (fun _ z => by cases z) hl
    simp only [Option.bind_eq_some_iff, Option.map_eq_some_iff] at h
    obtain ⟨i, hi, o, ho, c', h5, rfl⟩ := h
    exact ds_augN Γ hE.nodup (by rw [hE.names]; exact ixOf_some hi) l1 l2 (augOf_is ho) (hr _ _ h5)
  · split at h
    rotate_left
    · cases h
    rename_i hv
    simp only [Bool.and_eq_true] at hv
    obtain ⟨h1, h2⟩ := hv
    obtain ⟨q1, q2, q3⟩ := nameOk_is h2
    simp only [Option.bind_eq_some_iff, Option.map_eq_some_iff] at h
    obtain ⟨i, hi, o, ho, cb, h4, c', h5, rfl⟩ := h
    have hb := hr _ _ h4
    exact ds_augI Γ (by rw [hE.names]; exact ixOf_some hi) (visB_is h1) q1 q2 (augOf_is ho) hb (hr _ _ h5) (aug_sub hb.ok)
  · cases h
theorem cpXp_ok (hE : EnvOk Γ T X) {e : Expr} {c : Sm} {pos : Pos} (h : cpXp T X.env.scope e = some c) : DS X sa (.Expr e pos) (exec Γ c) := by
  have hr : RecOk Γ sa X (cpE T dep X.env.scope) := cpE_ok dep X hE
  unfold cpXp at h
  split at h
  · cases h
    exact ds_doc Γ
  · split at h
    · rename_i hm
      split at h
      rotate_left
      · cases h
      rename_i hv
      simp only [Bool.and_eq_true] at hv
      obtain ⟨⟨h1, h2⟩, h3⟩ := hv
      obtain ⟨q1, q2, q3⟩ := nameOk_is h2
      simp only [Option.bind_eq_some_iff, Option.map_eq_some_iff] at h
      obtain ⟨i, hi, c', h4, h5⟩ := h
      have hN := ixOf_some hi
      rw [← hE.names] at hN
      simp only [isApp, Bool.or_eq_true, beq_iff_eq] at hm
      split at h5
      · rename_i e
        subst e
        subst h5
        exact ds_app Γ hN (visB_is h1) q1 q2 h3 (hr _ _ h4)
      · rename_i e
        obtain rfl := hm.resolve_left e
        subst h5
        exact ds_ext Γ hN (visB_is h1) q1 q2 h3 (hr _ _ h4)
    · simp only [Option.map_eq_some_iff] at h
      obtain ⟨c', h1, rfl⟩ := h
      exact ds_expr Γ (hr _ _ h1) rfl
  · split at h
    · cases h
    rename_i hc
    simp only [Option.map_eq_some_iff] at h
    obtain ⟨c', h1, rfl⟩ := h
    exact ds_expr Γ (hr _ _ h1) (sw_no (by simpa using hc))
theorem cpSs_ok {rec : Stmt → Option Sm} (hr : ∀ s c, rec s = some c → DS X sa s (exec Γ c)) : ∀ {ss : List Stmt} {cs : Sms}, cpSs rec ss = some cs → DSs X sa ss (execs Γ cs)
  | [], cs, h => by
    simp only [cpSs] at h
    cases h
    exact ds_nil Γ
  | s :: r, cs, h => by
    simp only [cpSs, Option.bind_eq_some_iff, Option.map_eq_some_iff] at h
    obtain ⟨c, h1, cs', h2, rfl⟩ := h
    exact ds_cons Γ (hr _ _ h1) (cpSs_ok hr h2)
theorem cpS_ok (hE : EnvOk Γ T X) (hB : BodyOk X) : ∀ (n : Nat) (s : Stmt) (c : Sm), cpS T X.env.scope n s = some c → DS X sa s (exec Γ c)
  | 0, _, _, h => by cases h
  | n + 1, s, c, h => by
    have ih := cpS_ok hE hB n
    have hr : RecOk Γ sa X (cpE T dep X.env.scope) := cpE_ok dep X hE
    simp only [cpS] at h
    split at h
    · cases h; exact ds_pass Γ
    · cases h; exact ds_break Γ
    · cases h; exact ds_cont Γ
    · simp only [Option.map_eq_some_iff] at h
      obtain ⟨c1, h1, rfl⟩ := h
      exact ds_ret Γ (hr _ _ h1)
    · cases h; exact ds_retN Γ
    · exact cpSet_ok hE hB h
    · exact cpAsgT_ok hE hB h
    · exact cpSetI_ok hE h
    · exact cpAug_ok hE hB h
    · exact cpXp_ok hE h
    · simp only [Option.bind_eq_some_iff, Option.map_eq_some_iff] at h
      obtain ⟨x, h1, y, h2, z, h3, rfl⟩ := h
      exact ds_ite Γ (hr _ _ h1) (cpSs_ok ih h2) (cpSs_ok ih h3)
    · simp only [Option.bind_eq_some_iff, Option.map_eq_some_iff] at h
      obtain ⟨t, h1, i, h2, y, h3, rfl⟩ := h
      unfold cpKI at h2
      split at h2
      · rename_i i' _ hk
        cases h2
        obtain ⟨items, k, p1⟩ := cpK_ok (sa := sa) (Γ := Γ) hE hk
        exact ds_forK Γ hB.own hE.calm p1.pi p1.fold p1.ev (cpT_ok hE (fun _ => hB.fn) (fun _ z => by cases z) h1) (cpSs_ok ih h3)
      · exact ds_for Γ hB.own hE.calm (cpI_ok hE hr h2) (cpT_ok hE (fun _ => hB.fn) (fun _ z => by cases z) h1) (cpSs_ok ih h3)
    · simp only [Option.bind_eq_some_iff, Option.map_eq_some_iff] at h
      obtain ⟨x, h1, y, h2, rfl⟩ := h
      exact ds_whl Γ hB.own (hr _ _ h1) (cpSs_ok ih h2)
    · cases h
end
end Pf

set_option maxRecDepth 100000
/-! Pf12: the defs of a text, all at once, by the depth of calls. -/
namespace Pf
open PySem PySem.Spec PyProof.Rows
open L2 (V Hp HO upd upd_same upd_ne Same SqL SqT Dp DpAll Key Vals Cx Inv OpR R2 VK PE PT PA PS PSs PI PG PGs PTs PSet PGet PIp TE TT TA TS TI TG TGs TIp It RelV EP Vis Loc Gl Room Env0 CE CallR tCB TyOf TyX wipe BlkOk Ends Fun FnScope defBody defScope defArgs cxOf start CX0 E0 Only Binds)

theorem argSl_dat {Z : Hp} {v : V} {d : D} (h : Dt Z v d) : argSl d = .dat d := by
  cases h <;> rfl
theorem get_cons {x : Sl} {l : List Sl} {s : Option Src} {i : Nat} : (⟨x :: l, s⟩ : St).get (i + 1) = (⟨l, s⟩ : St).get i := rfl
/-- the slots at a def's entry -/
theorem start_slots {sa : SA} {g : Gh} {H : Hp} {src : Option Src} : ∀ {vs : List V} {ds : List D} {m : Nat} {k : Nat}, ArgAll sa g.Z vs ds → ∀ i, SlOk sa g H (k + i) ((vs.map some ++ List.replicate m none)[i]?) ((⟨ds.map argSl ++ List.replicate m .un, src⟩ : St).get i)
  | [], _, m, k, .nil, i => by
    have : (⟨List.map argSl [] ++ List.replicate m .un, src⟩ : St).get i = .un := by
      unfold St.get
      simp only [List.map_nil, List.nil_append, List.getD_eq_getElem?_getD, List.getElem?_replicate]
      split <;> rfl
    rw [this]
    trivial
  | v :: vs, d :: ds, m, k, .dat h t, i => by
    cases i with
    | zero =>
      show SlOk sa g H _ (some (some v)) (argSl d)
      rw [argSl_dat h]
      exact ⟨v, rfl, h⟩
    | succ i =>
      have := start_slots (H := H) (src := src) (m := m) (k := k + 1) t i
      rw [show k + 1 + i = k + (i + 1) by omega] at this
      exact this
  | _ :: vs, _ :: ds, m, k, .src (s0 := s0) (c0 := c0) h t, i => by
    cases i with
    | zero => exact ⟨s0, c0, h, rfl⟩
    | succ i =>
      have := start_slots (H := H) (src := src) (m := m) (k := k + 1) t i
      rw [show k + 1 + i = k + (i + 1) by omega] at this
      exact this
theorem start_sr {sa : SA} {Z : Hp} {H : Hp} {src : Option Src} {N : List Str} {vs : List V} {ds : List D} {n : Nat} (hn : vs.length = n) (S : Sub Z H) (A : ArgAll sa Z vs ds) (hs : SrcOk sa ⟨Z, noW⟩ H src) :
    SR sa ⟨Z, noW⟩ ⟨ds.map argSl ++ List.replicate (N.length - n) .un, src⟩ (start N vs) H := by
  refine ⟨S, fun a i h => (nomatch h), ?_, fun i => ?_, hs⟩
  · unfold L2.start
    simp only [List.length_append, List.length_map, List.length_replicate, ← A.len, hn]
  · have := start_slots (g := ⟨Z, noW⟩) (H := H) (src := src) (m := N.length - n) (k := 0) A i
    rw [Nat.zero_add] at this
    unfold L2.start
    rw [hn]
    exact this
theorem argAll_of {sa : SA} {Z : Hp} : ∀ {vs : List V} {ds : List D}, DtAll Z vs ds → ArgAll sa Z vs ds
  | _, _, .nil => .nil
  | _, _, .cons h t => .dat h (argAll_of t)
/-- at a def's end -/
theorem end_out {sa : SA} {Z : Hp} {H H' : Hp} {g' : Gh} {v : V} {r : Rv} (E : Ext sa ⟨Z, noW⟩ H g' H') (O : RtOk sa H g' H' v r) : OutOk H g'.Z H' v r := by
  cases r with
  | dat d => exact O
  | view i => exact O
  | src => exact O
  | lst xs =>
    obtain ⟨p, vs, h1, h2, h3, h4, h5, h6⟩ := O
    refine ⟨p, vs, h1, ?_, h2, h3, h4⟩
    cases q : H p with
    | none => rfl
    | some o =>
      obtain ⟨e1, e2, e3⟩ := E.keep p o q rfl h5
      rw [h6 e2] at q
      cases q
  | dct T kvs =>
    obtain ⟨p, vs, h1, h2, h3, h4, h5, h6⟩ := O
    refine ⟨p, vs, h1, ?_, h2, h3, h4⟩
    cases q : H p with
    | none => rfl
    | some o =>
      obtain ⟨e1, e2, e3⟩ := E.keep p o q rfl h5
      rw [h6 e2] at q
      cases q
theorem grows_of {sa : SA} {Z : Hp} {H H' : Hp} {g' : Gh} (E : Ext sa ⟨Z, noW⟩ H g' H') (S : Sub g'.Z H') (hs : ∀ s0 c0, sa = some (s0, c0) → Z s0 = none ∧ Z c0 = none ∧ g'.Z s0 = none ∧ g'.Z c0 = none) : Grows Z H g'.Z H' := by
  refine ⟨E.z, S, fun a ha => ?_⟩
  cases q : Z a with
  | some o => exact E.z _ _ q
  | none =>
    have fin : NotSrc sa a → g'.Z a = none := fun hsa => by
      cases q1 : H a with
      | none => exact absurd q1 ha.1
      | some o =>
        obtain ⟨_, _, e3⟩ := E.keep a o q1 rfl hsa
        exact e3 (fun vs z => ha.2 vs (by rw [q1, z])) q
    cases sa with
    | none => exact fin fun _ _ e => nomatch e
    | some p =>
      obtain ⟨s0, c0⟩ := p
      obtain ⟨z1, z2, z3, z4⟩ := hs s0 c0 rfl
      by_cases e1 : a = s0
      · rw [e1]; exact z3
      · by_cases e2 : a = c0
        · rw [e2]; exact z4
        · exact fin fun s1 c1 e => by
            cases e
            exact ⟨e1, e2⟩
section
variable {P : Program} {w : World} {K : PySem.W.Frag} {mg : Str → Option Value} {base : Heap} {f : Addr} {fd : FuncData} {ps : List Str}
/-- the level's facts of the defs that a body may call -/
structure Lev (P : Program) (w : World) (K : PySem.W.Frag) (mg : Str → Option Value) (base : Heap) (k : Nat) (Γ : Nat → Fn) (T : Tb) : Prop where
  fns : ∀ x i n b, T.fns.lookup x = some (i, n, b) → ∃ f fd ps, mg x = some (.ref f) ∧ PySem.W.keepIn K (.ref f) = true ∧ Binds K fd ps [] ∧
    ((b = false ∧ ∃ F, Γ i = .pure F ∧ FnG P w K mg base k f fd ps (spP n F)) ∨ (b = true ∧ ∃ F, Γ i = .srcd F ∧ FnG P w K mg base k f fd ps (spS n F)))
  blt : ∀ x ∈ T.blt, mg x = none
theorem env_ok {x : Str} {st : Stmt} {N : List Str} {k : Nat} {Γ : Nat → Fn} {T : Tb} (S : FnScope N ps (defScope st)) (hT : T.N = N) (L : Lev P w K mg base k Γ T) {cdv : Value} {A : Around} {outer : List Env} {s : Shared} {H : Hp}
    (hr : Room k (A.deeper (envOfC x (defScope st) s.heap.objs.size f cdv))) (hg : A.guards = some []) : EnvOk Γ T (cxOf CX0 P w K mg base N x (defScope st) f cdv A outer s H E0).nox where
  calm := rfl
  guards := hg
  units := by
    have := hr.un
    show (A.deeper (envOfC x (defScope st) s.heap.objs.size f cdv)).units + 80 < cLine
    omega
  nodup := S.nd
  names := hT.symm
  blt := L.blt
  fns := fun y i n b e => by
    obtain ⟨f', fd', ps', h1, h2, h3, h4⟩ := L.fns y i n b e
    refine ⟨fun hb => ?_, fun hb => ?_⟩
    · rcases h4 with ⟨_, F, h5, h6⟩ | ⟨hb', _⟩
      · exact ⟨F, ⟨⟨k, f', fd', ps', h6, hr, h1, h2, h3⟩⟩, h5⟩
      · rw [hb] at hb'; cases hb'
    · rcases h4 with ⟨hb', _⟩ | ⟨_, F, h5, h6⟩
      · rw [hb] at hb'; cases hb'
      · exact ⟨F, ⟨⟨k, f', fd', ps', h6, hr, h1, h2, h3⟩⟩, h5⟩
theorem body_ok {x : Str} {st : Stmt} {N : List Str} {k : Nat} {Γ : Nat → Fn} {T : Tb} {body : Sms} {sa : SA} (S : FnScope N ps (defScope st)) (hT : T.N = N) (L : Lev P w K mg base k Γ T) {ss : List Stmt} (hc : cpSs (cpS T (defScope st) 24) ss = some body) {cdv : Value} {A : Around} {outer : List Env} {s : Shared} {H : Hp}
    (hr : Room k (A.deeper (envOfC x (defScope st) s.heap.objs.size f cdv))) (hg : A.guards = some []) : PSs (cxOf CX0 P w K mg base N x (defScope st) f cdv A outer s H E0).nox ss (tDS sa (execs Γ body)) := by
  have hE := env_ok (x := x) (f := f) (cdv := cdv) (outer := outer) (s := s) (H := H) S hT L hr hg
  have hB : BodyOk (cxOf CX0 P w K mg base N x (defScope st) f cdv A outer s H E0).nox := ⟨S.kind, fun _ => rfl, PassesOwn.never⟩
  exact cpSs_ok (fun t c h => cpS_ok hE hB 24 t c h) hc
/-- a def without the source -/
theorem def_pure {x : Str} {st : Stmt} {N : List Str} {k : Nat} {Γ : Nat → Fn} {T : Tb} {body : Sms} (F : Fun K x x st f fd) (S : FnScope N ps (defScope st)) (hT : T.N = N) (hc : cpSs (cpS T (defScope st) 24) (defBody st) = some body) (L : Lev P w K mg base k Γ T) :
    FnG P w K mg base (k + 1) f fd ps (spP ps.length (runP Γ (N.length - ps.length) body)) := by
  refine okG F S (fun vs H Q h => ?_) fun cdv A outer s H vs Q hr hg hs => ⟨tDS none (execs Γ body), body_ok S hT L hc hr hg, ?_⟩
  · obtain ⟨_, _, _, h, _⟩ := h
    exact h
  obtain ⟨Z, ds, r, hl, sub, hd, hrun, q⟩ := hs
  have A0 := argAll_of (sa := none) hd
  have R := start_sr (N := N) (src := none) hl sub A0 (.inl ⟨rfl, rfl⟩)
  unfold runP at hrun
  split at hrun
  · rename_i r' st' he
    cases hrun
    refine ⟨_, _, _, R, he, fun v σ' g' H' R' E' O' => ?_⟩
    refine q v g'.Z H' (grows_of E' R'.sub fun _ _ e => by cases e) (fun a o e => (E'.keep a o e rfl fun _ _ e => by cases e).1) (end_out E' O')
  · rename_i st' he
    cases hrun
    refine ⟨_, _, _, R, he, fun σ' g' H' R' E' => ?_⟩
    exact q .non g'.Z H' (grows_of E' R'.sub fun _ _ e => by cases e) (fun a o e => (E'.keep a o e rfl fun _ _ e => by cases e).1) .non
  · cases hrun
/-- .. with the source -/
theorem def_src {x : Str} {st : Stmt} {N : List Str} {k : Nat} {Γ : Nat → Fn} {T : Tb} {body : Sms} (F : Fun K x x st f fd) (S : FnScope N ps (defScope st)) (hT : T.N = N) (hc : cpSs (cpS T (defScope st) 24) (defBody st) = some body) (L : Lev P w K mg base k Γ T) :
    FnG P w K mg base (k + 1) f fd ps (spS ps.length (runS Γ (N.length - ps.length) body)) := by
  have body_ok' := fun (sa : SA) (cdv : Value) (A : Around) (outer : List Env) (s : Shared) (H : Hp) (hr : Room k (A.deeper (envOfC x (defScope st) s.heap.objs.size f cdv))) (hg : A.guards = some []) => body_ok (sa := sa) (f := f) (outer := outer) (H := H) S hT L hc hr hg
  have key : ∀ {s0 c0 : Addr} {Z H H' : Hp} {s : Src} {g' : Gh} {st' : Pf.St} {σ' : L2.St}, SrcAt s0 c0 s ⟨Z, noW⟩ H → SR (some (s0, c0)) g' st' σ' H' → Ext (some (s0, c0)) ⟨Z, noW⟩ H g' H' →
      ∃ t, st'.src = some t ∧ Grows Z H g'.Z H' ∧ (∀ a o, H a = some o → a ≠ s0 → a ≠ c0 → H' a = some o) ∧ SrcAt s0 c0 t ⟨g'.Z, noW⟩ H' := by
    intro s0 c0 Z H H' s g' st' σ' hs R' E'
    obtain ⟨t, e1, q⟩ := R'.src.at rfl
    refine ⟨t, e1, grows_of E' R'.sub fun s1 c1 e => ?_, fun a o e n1 n2 => (E'.keep a o e rfl fun s1 c1 e => ?_).1, ⟨q.d, q.c, q.ne, q.zs, q.zc, rfl, rfl⟩⟩
    · cases e
      exact ⟨hs.zs, hs.zc, q.zs, q.zc⟩
    · cases e
      exact ⟨n1, n2⟩
  refine ⟨fun vs H Q h => ?_, fun A outer s H us vs Q hr hg e0 hb rv hs => ?_⟩
  · obtain ⟨_, _, _, _, _, _, _, h, _⟩ := h
    exact h
  have sp1 : ∀ vs H Q, spS ps.length (runS Γ (N.length - ps.length) body) vs H Q → vs.length = ps.length := fun vs H Q h => by
    obtain ⟨_, _, _, _, _, _, _, h, _⟩ := h
    exact h
  refine (okG (sp := spS ps.length (runS Γ (N.length - ps.length) body)) F S sp1 fun cdv A outer s H vs Q hr hg hs => ?_).run A outer s H us vs Q hr hg e0 hb rv hs
  obtain ⟨Z, s0, c0, sr, ds, r, sr', hl, sub, hsrc, A0, hrun, q⟩ := hs
  refine ⟨tDS (some (s0, c0)) (execs Γ body), body_ok' _ _ _ _ _ _ hr hg, ?_⟩
  have R := start_sr (N := N) (src := some sr) hl sub A0 (.inr ⟨s0, c0, sr, rfl, rfl, hsrc⟩)
  unfold runS at hrun
  split at hrun
  · rename_i r' st' he
    simp only [Option.map_eq_some_iff] at hrun
    obtain ⟨t, e1, e2⟩ := hrun
    cases e2
    refine ⟨_, _, _, R, he, fun v σ' g' H' R' E' O' => ?_⟩
    obtain ⟨t', e1', h1, h2, h3⟩ := key hsrc R' E'
    rw [e1] at e1'
    cases e1'
    exact q v g'.Z H' h1 h2 h3 (end_out E' O')
  · rename_i st' he
    simp only [Option.map_eq_some_iff] at hrun
    obtain ⟨t, e1, e2⟩ := hrun
    cases e2
    refine ⟨_, _, _, R, he, fun σ' g' H' R' E' => ?_⟩
    obtain ⟨t', e1', h1, h2, h3⟩ := key hsrc R' E'
    rw [e1] at e1'
    cases e1'
    exact q .non g'.Z H' h1 h2 h3 .non
  · cases hrun
end
/-! ### all defs of a text -/
structure DefC where
  x : Str
  st : Stmt
  N : List Str
  ps : List Str
  src : Bool
  tmp : List (Nat × List Nat)
  body : Sms
  dts : List (Nat × Nat) := []
def noF : Fn → Fn
  | .pure _ => .pure fun _ => none
  | .srcd _ => .srcd fun _ _ => none
def fnOf (Γ : Nat → Fn) (d : DefC) : Fn := if d.src then .srcd (runS Γ (d.N.length - d.ps.length) d.body) else .pure (runP Γ (d.N.length - d.ps.length) d.body)
/-- what the defs do, calls nested at most k deep -/
def Gam (prim : Nat → Fn) (defs : List DefC) : Nat → Nat → Fn
  | 0, i => match defs[i]? with
    | some d => if d.src then .srcd fun _ _ => none else .pure fun _ => none
    | none => noF (prim i)
  | k + 1, i => match defs[i]? with
    | some d => fnOf (Gam prim defs k) d
    | none => prim i
def tbOf (fns : List (Str × Nat × Nat × Bool)) (blt : List Str) (fuel : Nat) (d : DefC) : Tb := ⟨d.N, fns, blt, fuel, d.tmp, d.dts⟩
/-- what the kernel finds of a def's text -/
structure DefT (fns : List (Str × Nat × Nat × Bool)) (blt : List Str) (fuel : Nat) (d : DefC) : Prop where
  S : FnScope d.N d.ps (defScope d.st)
  c : cpSs (cpS (tbOf fns blt fuel d) (defScope d.st) 24) (defBody d.st) = some d.body
/-- where a def stands behind the top -/
structure DefAt (K : PySem.W.Frag) (mg : Str → Option Value) (d : DefC) : Prop where
  ex : ∃ f fd, Fun K d.x d.x d.st f fd ∧ mg d.x = some (.ref f) ∧ Binds K fd d.ps []
section
variable {P : Program} {w : World} {K : PySem.W.Frag} {mg : Str → Option Value} {base : Heap} {prim : Nat → Fn} {defs : List DefC} {fns : List (Str × Nat × Nat × Bool)} {blt : List Str} {fuel : Nat}
/-- a def of the model's own: the source's draws -/
structure PrimAt (P : Program) (w : World) (K : PySem.W.Frag) (mg : Str → Option Value) (base : Heap) (x : Str) (n : Nat) (F : List D → Src → Option (Rv × Src)) : Prop where
  ex : ∃ f fd ps, mg x = some (.ref f) ∧ PySem.W.keepIn K (.ref f) = true ∧ Binds K fd ps [] ∧ FnG P w K mg base 1 f fd ps (spS n F)
def fnsC (prim : List (Str × Nat × Nat)) (defs : List DefC) (fns : List (Str × Nat × Nat × Bool)) : Bool :=
  fns.all fun e => (match defs[e.2.1]? with
    | some d => d.x == e.1 && d.ps.length == e.2.2.1 && d.src == e.2.2.2
    | none => prim.contains (e.1, e.2.1, e.2.2.1) && e.2.2.2)
structure Text (P : Program) (w : World) (K : PySem.W.Frag) (mg : Str → Option Value) (base : Heap) (prim : Nat → Fn) (defs : List DefC) (fns : List (Str × Nat × Nat × Bool)) (blt : List Str) (fuel : Nat) : Prop where
  here : ∀ d ∈ defs, DefAt K mg d
  text : ∀ d ∈ defs, DefT fns blt fuel d
  tab : ∀ x i n b, fns.lookup x = some (i, n, b) → (∃ d, defs[i]? = some d ∧ d.x = x ∧ d.ps.length = n ∧ d.src = b) ∨ (defs[i]? = none ∧ b = true ∧ ∃ F, prim i = .srcd F ∧ PrimAt P w K mg base x n F)
  blt : ∀ x ∈ blt, mg x = none
theorem FnG.never {k : Nat} {f : Addr} {fd : FuncData} {ps : List Str} {sp : Sq} (h : ∀ vs H Q, ¬ sp vs H Q) : FnG P w K mg base k f fd ps sp := ⟨fun vs H Q q => (h vs H Q q).elim, fun A outer s H us vs Q _ _ _ _ _ q => (h vs H Q q).elim⟩
theorem text_lev (X : Text P w K mg base prim defs fns blt fuel) : ∀ (k : Nat) (d0 : DefC), Lev P w K mg base k (Gam prim defs k) (tbOf fns blt fuel d0)
  | 0, d0 => by
    refine ⟨fun x i n b e => ?_, X.blt⟩
    rcases X.tab x i n b e with ⟨d, h1, rfl, rfl, rfl⟩ | ⟨h1, rfl, F, h2, h3⟩
    · obtain ⟨f, fd, h4, h5, h6⟩ := (X.here d (List.mem_of_getElem? h1)).ex
      refine ⟨f, fd, d.ps, h5, h4.kp, h6, ?_⟩
      cases hs : d.src with
      | false => exact .inl ⟨rfl, fun _ => none, by simp only [Gam, h1, hs]; rfl, .never fun vs H Q ⟨_, _, _, _, _, _, q, _⟩ => by cases q⟩
      | true => exact .inr ⟨rfl, fun _ _ => none, by simp only [Gam, h1, hs]; rfl, .never fun vs H Q ⟨_, _, _, _, _, _, _, _, _, _, _, q, _⟩ => by cases q⟩
    · obtain ⟨f, fd, ps, h4, h5, h6, h7⟩ := h3.ex
      exact ⟨f, fd, ps, h4, h5, h6, .inr ⟨rfl, fun _ _ => none, by simp only [Gam, h1, h2]; rfl, .never fun vs H Q ⟨_, _, _, _, _, _, _, _, _, _, _, q, _⟩ => by cases q⟩⟩
  | k + 1, d0 => by
    refine ⟨fun x i n b e => ?_, X.blt⟩
    rcases X.tab x i n b e with ⟨d, h1, rfl, rfl, rfl⟩ | ⟨h1, rfl, F, h2, h3⟩
    · have hm := List.mem_of_getElem? h1
      obtain ⟨f, fd, h4, h5, h6⟩ := (X.here d hm).ex
      have tx := X.text d hm
      have lv := text_lev X k d
      refine ⟨f, fd, d.ps, h5, h4.kp, h6, ?_⟩
      cases hs : d.src with
      | false => exact .inl ⟨rfl, runP (Gam prim defs k) (d.N.length - d.ps.length) d.body, by simp only [Gam, h1, fnOf, hs]; rfl, def_pure h4 tx.S rfl tx.c lv⟩
      | true => exact .inr ⟨rfl, runS (Gam prim defs k) (d.N.length - d.ps.length) d.body, by simp only [Gam, h1, fnOf, hs]; rfl, def_src h4 tx.S rfl tx.c lv⟩
    · obtain ⟨f, fd, ps, h4, h5, h6, h7⟩ := h3.ex
      exact ⟨f, fd, ps, h4, h5, h6, .inr ⟨rfl, F, by simp only [Gam, h1, h2], h7.mono (by omega)⟩⟩
end
end Pf

set_option maxRecDepth 100000
/-! Pf13: a law's own head: the call from outside, the source of draws. -/
namespace Pf
open PySem PySem.Spec PyProof.Rows
open L2 (V Hp HO upd upd_same upd_ne Same SqL SqT Dp DpAll Key Vals Cx Inv OpR R2 VK PE PT PA PS PSs PI PG PGs PTs PSet PGet PIp TE TT TA TS TI TG TGs TIp It Itl RelV EP Vis Loc Gl Room Env0 CE CallR tCB TyOf TyX wipe BlkOk Ends Fun FnScope defBody defScope defArgs cxOf start CX0 E0 Only Binds)
section
variable {P : Program} {w : World} {K : PySem.W.Frag} {mg : Str → Option Value} {base : Heap} {f fa : Addr} {fd : FuncData}
/-- a list of ints, wherever it stands -/
def spLaw (K : PySem.W.Frag) : Sq := fun vs H Q => ∃ (a : Addr) (ns : List Int), vs = [.ref a] ∧ ns.length ≤ sizeLine ∧ SqL K H a (ns.map V.int) ∧ ∀ H', Q (.bl true) H'
/-- the law, called behind the top, answers True -/
theorem law_callG {mb : Str → Option Value} {k : Nat} {a : Addr} {x : Str} {s₁ : Shared} {vs : List Value} {ns : List Int}
    (KX : K.In s₁.heap) (hns : s₁.heap.Ns mainGlobals mg) (hb : s₁.heap.Ns builtinsNs mb) (hbb : ∀ x : Str, x ≠ "__name__" → mb x = bootBuiltins x) (hlim : s₁.heap.NoLimit) (hg : s₁.gens = #[])
    (ha : s₁.heap.get? a = some { cls := .type "list", data := .seq vs.toArray }) (hi : IntsAre vs ns) (hl : ns.length ≤ sizeLine) (hr : Room k callerA)
    (F : ∀ base : Heap, K.In base → base.Ns mainGlobals mg → FnG P w K mg base k fa fd [x] (spLaw K)) (hbind : ∀ (s : Shared) (u : Value), BindsTo s fd ⟨[u], []⟩ [(x, u)]) :
    codeAny (model P w) callerA (.call (.ref fa) ⟨[.ref a], []⟩) (fun r s' => r = .ok (.ret (.bool true)) ∧ OldK s₁.heap s'.heap ∧ s'.os = s₁.os ∧ AllBare s'.gens) s₁ := by
  have rv := L2.vals_ints hi
  have lenV := hi.length
  -- the abstract heap: the script's record as it is, unless the module knows it
  have main : ∀ H : Hp, Only H → SqL K H a (ns.map V.int) → L2.HOk P w H s₁.heap → (∀ b, H b ≠ none → b = a ∧ K.lookup a = none) →
      codeAny (model P w) callerA (.call (.ref fa) ⟨[.ref a], []⟩) (fun r s' => r = .ok (.ret (.bool true)) ∧ OldK s₁.heap s'.heap ∧ s'.os = s₁.os ∧ AllBare s'.gens) s₁ := by
    intro H hO hS hok hA
    have inB : ∀ {b : Addr} {o : Obj}, s₁.heap.get? b = some o → (b = a → K.lookup a ≠ none ∨ ∃ es ep, o.data = .dict es ep) → (L2.hidT s₁.heap H).get? b = some o := fun {b o} e h => L2.hidT_get e (by
      cases q : H b with
      | none => rfl
      | some u =>
        obtain ⟨h1, h2⟩ := hA b (by rw [q]; exact fun z => nomatch z)
        rcases h h1 with h3 | ⟨es, ep, h3⟩
        · exact absurd h2 h3
        · rw [h1, ha] at e
          cases e
          cases h3)
    have nsB : ∀ {b : Addr} {m : Str → Option Value}, s₁.heap.Ns b m → (L2.hidT s₁.heap H).Ns b m := fun ⟨o, es, ep, e, d, r⟩ => ⟨o, es, ep, inB e fun _ => .inr ⟨es, ep, d⟩, d, r⟩
    have kB : K.In (L2.hidT s₁.heap H) := fun b o e => inB (KX b o e) fun z => .inl (by rw [← z, e]; exact fun z => nomatch z)
    have mB : L2.Mod K mg (L2.hidT s₁.heap H) := ⟨kB, nsB hns, ⟨mb, nsB hb, hbb⟩, let ⟨mc, h1, h2⟩ := hlim; ⟨mc, nsB h1, h2⟩⟩
    have e0 : Env0 P w K mg (L2.hidT s₁.heap H) callerA [] s₁ H := ⟨rfl, mB, fun b o e => L2.of_hidT e, Nat.le_of_eq (L2.hidT_size _ _), trivial, fun b hb => absurd (show b ∈ ([] : List Addr) from hb) (by simp), hok, .of_eq hg⟩
    refine codeAny_mono ((F _ kB (nsB hns)).run callerA [] s₁ H [.ref a] [.ref a] (fun v _ => v = .bl true) hr rfl e0 (hbind s₁ (.ref a)) (.cons rfl .nil) ⟨a, ns, rfl, hl, hS, fun _ => rfl⟩) fun r s' ⟨u, e1, h⟩ => ?_
    obtain ⟨v, H', os, bare, un, hok', r', q⟩ := h
    subst e1
    have q' : v = .bl true := q
    subst q'
    obtain rfl : u = Value.bool true := r'
    refine ⟨rfl, OldK.of_keep fun b o e => ?_, os, bare⟩
    rcases hO b with z | ⟨ob, xs, z⟩
    · exact un.keep b o e z (by intro z; exact absurd (show b ∈ ([] : List Addr) from z) (by simp)) (by simp)
    · obtain ⟨e1, _⟩ := hok b _ z
      obtain ⟨e2, _⟩ := hok' b _ (un.frzs b ob _ z)
      rw [e] at e1
      cases e1
      exact e2
  cases hk : K.lookup a with
  | some o =>
    have e := KX a o hk
    rw [ha] at e
    cases e
    exact main (fun _ => none) (fun _ => .inl rfl) (.inr ⟨_, vs.toArray, _, hk, rfl, rfl, rfl, by rw [List.size_toArray, lenV]; exact hl, by simpa using rv⟩) (fun b u z => nomatch z) fun b z => absurd rfl z
  | none =>
    have at_a : ∀ {b : Addr} {u : HO}, (if b = a then some (HO.frz { cls := .type "list", data := .seq vs.toArray } (.lst (ns.map V.int))) else none) = some u → b = a ∧ u = HO.frz { cls := .type "list", data := .seq vs.toArray } (.lst (ns.map V.int)) := fun {b u} z => by
      by_cases h : b = a
      · rw [if_pos h] at z
        exact ⟨h, (Option.some.inj z).symm⟩
      · rw [if_neg h] at z
        cases z
    refine main (fun b => if b = a then some (.frz { cls := .type "list", data := .seq vs.toArray } (.lst (ns.map V.int))) else none) (fun b => ?_) (.inl (.inr ⟨{ cls := .type "list", data := .seq vs.toArray }, if_pos rfl⟩)) (fun b u z => ?_) fun b z => ?_
    · by_cases h : b = a
      · exact .inr ⟨_, _, if_pos h⟩
      · exact .inl (if_neg h)
    · obtain ⟨rfl, rfl⟩ := at_a z
      exact ⟨ha, by rw [List.length_map]; exact hl, vs, _, rv, ha⟩
    · by_cases h : b = a
      · exact ⟨h, hk⟩
      · exact absurd (if_neg h) z
end
/-- the end of a law's proof -/
theorem walk_ofG {l : PySem.W.OpenLaw} {n k : Nat} {q : Program} {loose : List Str} {XP : (Str → Option Value) → Heap → Prop} {YP : World → Heap → Prop} {d : DefRec} {K : Params → PySem.W.Frag} {x : Str}
    (hn : l.most = some n) (hn2 : n ≤ sizeLine) (hdf : d.params.defaults = []) (hr : Room k callerA) (hY : ∀ (w : World) (h : Heap), YP w h → (K w.params).In h)
    (F : ∀ (w : World) (mg : Str → Option Value) (fa : Addr) (h : Heap), (K w.params).In h → h.Ns mainGlobals mg → mg d.name = some (.ref fa) →
      ∃ fd : FuncData, (∀ (s : Shared) (u : Value), BindsTo s fd ⟨[u], []⟩ [(x, u)]) ∧ ∀ base : Heap, (K w.params).In base → base.Ns mainGlobals mg → FnG l.prog w (K w.params) mg base k fa fd [x] (spLaw (K w.params))) :
    PySem.W.WalkO q loose XP YP l.row.toRowW d [] (fun f vs => PySem.call f vs) := by
  refine Att.attach_callB hn hdf fun w s₀ s₁ mg mb fa o pm cd doc a vs ns G Y ho hd hcd hmg hobj hints hlen hbits hg => ?_
  have KX := hY w _ Y
  obtain ⟨fd, hb, hF⟩ := F w mg fa _ KX G.T.g hmg
  exact law_callG KX G.T.g G.T.b G.T.builtins G.T.nolimit hg hobj hints (Nat.le_trans hlen hn2) hr hF hb
end Pf

set_option maxRecDepth 100000
/-! Pf14: the def that makes the source of draws; the law's own def. -/
namespace Pf
open PySem PySem.Spec PyProof.Rows
open L2 (V Hp HO upd upd_same upd_ne Same SqL SqT Dp DpAll Key Vals Cx Inv OpR R2 VK PE PT PA PS PSs PI PG PGs PTs PSet PGet PIp TE TT TA TS TI TG TGs TIp It Itl RelV EP Vis Loc Gl Room Env0 CE CallR tCB TyOf TyX wipe BlkOk Ends Fun FnScope defBody defScope defArgs cxOf CX0 E0 Only Binds)
/-- the text of the def that makes the source -/
inductive IsSource : List Stmt → Prop
  | mk {p1 p2 p3 p4 p5 p6 p7 p8 p9 p10 p11 p12 p13 p14 p15 p16 p17 p18 p19 p20 p21 p22 p23 p24 p25 p26 p27 p28 p29 p30 p31 p32 p33 p34 p35 p36 p37 p38 p39 p40 : Pos} : IsSource [
      .Assign [.Name "mixed" p1] (.Constant (.int 11) 0 p2) p3,
      .For (.Name "cell" p4) (.Name "script" p5) [
        .Assign [.Name "mixed" p6] (.BinOp (.Call (.Name "int" p7) [.BinOp (.BinOp (.BinOp (.Name "mixed" p8) .Mult (.Constant (.int 69069) 0 p9) p10) .Add (.BinOp (.Name "cell" p11) .Mult (.Constant (.int 31) 0 p12) p13) p14) .Add (.Constant (.int 5) 0 p15) p16] [] p17) .Mod (.Constant (.int 2147483629) 0 p18) p19) p20] [] p21,
      .Return (some (.Dict [some (.Constant (.str "cells") 0 p22), some (.Constant (.str "left") 0 p23), some (.Constant (.str "mixed") 0 p24), some (.Constant (.str "turn") 0 p25)]
        [.Subscript (.ListComp (.Call (.Name "abs" p26) [.Name "cell" p27] [] p28) [⟨.Name "cell" p29, .Name "script" p30, [], 0⟩]
            { kind := .function, names := [(".0", .local), ("cell", .local), ("abs", .globalImplicit)], isGenerator := false, isCoroutine := false, more := [] } p31)
          (.Slice none none (some (.UnaryOp .USub (.Constant (.int 1) 0 p32) p33)) p34) p35,
         .Constant (.int 1) 0 p36, .Name "mixed" p37, .Constant (.int 0) 0 p38] p39)) p40]
def srcNames : List (Str × NameKind) := [("script", .local), ("mixed", .local), ("cell", .local), ("int", .globalImplicit)]
def spSrc (K : PySem.W.Frag) : Sq := fun vs H Q => ∃ (a : Addr) (ns : List Int), vs = [.ref a] ∧ ns.length ≤ sizeLine ∧ SqL K H a (ns.map V.int) ∧ ∀ H' s0 c0 s, SrcAt s0 c0 s ⟨fun _ => none, noW⟩ H' → Q (.ref s0) H'
theorem sqL_same {K : PySem.W.Frag} {H H' : Hp} {a : Addr} {xs : List V} (S : Same H H') (h : SqL K H a xs) : SqL K H' a xs := S.seq h
section
variable {P : Program} {w : World} {K : PySem.W.Frag} {mg : Str → Option Value} {base : Heap} {f fa : Addr} {fd : FuncData}
theorem same_new {H : Hp} {p : Addr} {o : HO} (h : H p = none) : Same H (upd H p o) := fun b x e => by
  rw [upd_ne (fun z => by rw [z, h] at e; cases e)]
  exact e
theorem ok_source {st : Stmt} (F : Fun K "_law_source" "_law_source" st f fd) (hb : IsSource (defBody st)) (S : FnScope ["script", "mixed", "cell"] ["script"] (defScope st)) (hn : (defScope st).names = srcNames) (mi : mg "int" = none) (ma : mg "abs" = none) :
    FnG P w K mg base 1 f fd ["script"] (spSrc K) := by
  refine okG F S (fun vs H Q ⟨a, ns, e, _⟩ => by rw [e]; rfl) fun cdv A outer s H vs Q hr hg ⟨a, ns, ev, hlen, hS, q⟩ => ?_
  subst ev
  generalize defBody st = body at hb ⊢
  cases hb
  have nm : ∀ x, (cxOf CX0 P w K mg base ["script", "mixed", "cell"] "_law_source" (defScope st) f cdv A outer s H E0).nox.env.scope.names.lookup x = srcNames.lookup x := fun x => by
    show (defScope st).names.lookup x = _
    rw [hn]
  have v0 : ∀ {p : Pos}, PE (cxOf CX0 P w K mg base ["script", "mixed", "cell"] "_law_source" (defScope st) f cdv A outer s H E0).nox (.Name "script" p) (L2.tVar 0) := L2.pe_var rfl (.inl (nm _)) (by decide) (by decide)
  have v1 : ∀ {p : Pos}, PE (cxOf CX0 P w K mg base ["script", "mixed", "cell"] "_law_source" (defScope st) f cdv A outer s H E0).nox (.Name "mixed" p) (L2.tVar 1) := L2.pe_var rfl (.inl (nm _)) (by decide) (by decide)
  have v2 : ∀ {p : Pos}, PE (cxOf CX0 P w K mg base ["script", "mixed", "cell"] "_law_source" (defScope st) f cdv A outer s H E0).nox (.Name "cell" p) (L2.tVar 2) := L2.pe_var rfl (.inl (nm _)) (by decide) (by decide)
  have gi : Gl (cxOf CX0 P w K mg base ["script", "mixed", "cell"] "_law_source" (defScope st) f cdv A outer s H E0).nox "int" := nm _
  refine ⟨_, L2.pss_cons (L2.ps_set (i := 1) S.nd rfl (.inl (nm _)) L2.pe_int rfl (.inl rfl))
    (L2.pss_cons (L2.ps_for PassesOwn.never rfl (L2.pi_list v0) (L2.pg_name (i := 2) S.nd rfl (.inl (nm _)) (.inl rfl))
      (L2.pss_one (L2.ps_set (i := 1) S.nd rfl (.inl (nm _)) (L2.pe_op L2.op_modN (L2.pe_callTy L2.call_int1 gi mi (by decide +kernel) (L2.pa_cons (L2.pe_op L2.op_add (L2.pe_op L2.op_add (L2.pe_op L2.op_mul v1 L2.pe_int) (L2.pe_op L2.op_mul v2 L2.pe_int)) L2.pe_int) L2.pa_nil)) L2.pe_int) rfl (.inl rfl))))
    (L2.pss_one (L2.ps_ret (L2.pe_disp (L2.pps_cons L2.pe_str (L2.pe_rev (L2.pe_lc (own := [("cell", 2)]) rfl S.nd (L2.pi_list v0) (L2.blkOk_by ?blk)
        (fun s H C cl fp => L2.pg_name (i := 2) S.nd rfl (.inl rfl) (.inr rfl)) (fun s H C cl fp => L2.pts_nil)
        (fun s H C cl fp => L2.pe_callB L2.call_abs (by rfl) ma (by decide +kernel) (L2.pa_cons (L2.pe_var (i := 2) rfl (.inl rfl) (by decide) (by decide)) L2.pa_nil))))
      (L2.pps_cons L2.pe_str L2.pe_int (L2.pps_cons L2.pe_str v1 (L2.pps_cons L2.pe_str L2.pe_int L2.pps_nil)))) rfl rfl (by simp) (by simp))))), ?_⟩
  case blk => rfl
  have no : ∀ {H' : Hp} {p : Addr}, Same H H' → H' p = none → H p = none := fun S e => Same.free S e
  refine ⟨.ref a, rfl, a, rfl, ⟨_, hS⟩, L2.for_list (xs := ns.map V.int) (fun i σ H' => ∃ m y, σ = [some (V.ref a), some (V.int m), y] ∧ H' = H) ⟨11, none, rfl, rfl⟩ (fun i σ H' _ ⟨m, y, e1, e2⟩ => by rw [e2]; exact hS) (fun i x σ H' hx ⟨m, y, e1, e2⟩ => ?_) fun σ H' ⟨m, y, e1, e2⟩ => ?_⟩
  · subst e1 e2
    rw [List.getElem?_map, Option.map_eq_some_iff] at hx
    obtain ⟨n, _, rfl⟩ := hx
    refine ⟨_, rfl, m, 69069, rfl, rfl, .inr ⟨by decide, by decide⟩, ?_⟩
    refine ⟨_, rfl, n, 31, rfl, rfl, .inr ⟨by decide, by decide⟩, ?_⟩
    exact ⟨_, _, rfl, rfl, _, 5, rfl, rfl, .inl ⟨_, rfl, _, 2147483629, rfl, rfl, (fun z => by cases z), _, _, rfl, rfl⟩⟩
  · subst e1 e2
    intro p hp
    have S1 : Same H' (upd H' p (.dK [])) := same_new hp
    refine ⟨.ref a, rfl, a, rfl, ⟨_, S1.seq hS⟩, fun D hD => L2.lc_list (xs := ns.map V.int) (fun i H2 => Same (upd H' p (.dK [])) H2 ∧ H2 D = some (.lst ((ns.take i).map fun n => V.int (if n < 0 then -n else n)))) ⟨same_new hD, upd_same⟩ (fun i H2 _ h => h.1.seq (S1.seq hS)) (fun i x H2 hx h => ?_) fun H2 h => ?_⟩
    · rw [List.getElem?_map, Option.map_eq_some_iff] at hx
      obtain ⟨n, hn, rfl⟩ := hx
      have hi : i < ns.length := (List.getElem?_eq_some_iff.mp hn).1
      refine ⟨rfl, ?_⟩
      show L2.tVar 2 _ H2 _
      refine ⟨_, rfl, n, rfl, _, h.2, ?_, fun b o e => ?_, ?_⟩
      · rw [List.length_map, List.length_take]
        omega
      · rw [upd_ne (fun z => by rw [z, hD] at e; cases e)]
        exact h.1 b o e
      · rw [upd_same, List.take_add_one, hn, List.map_append]
        rfl
    · rw [List.length_map, List.take_of_length_le (Nat.le_refl _)] at h
      obtain ⟨S2, h2⟩ := h
      refine ⟨D, _, rfl, .inl ⟨SqL.of h2, fun c hc => ?_⟩⟩
      have h3 : H2 p = some (.dK []) := S2 _ _ upd_same
      have npc : p ≠ c := fun z => by rw [z, hc] at h3; cases h3
      refine ⟨_, rfl, ?_, srcKvs c ⟨(ns.map fun n => if n < 0 then -n else n).reverse, 1, m, 0⟩, rfl, ?_, ?_⟩
      · rw [upd_ne npc]
        exact h3
      · show 4 ≤ 15
        omega
      · refine q _ p c ⟨(ns.map fun n => if n < 0 then -n else n).reverse, 1, m, 0⟩ ⟨?_, ?_, npc, rfl, rfl, rfl, rfl⟩
        · rw [upd_same]
          rfl
        · rw [upd_ne (Ne.symm npc), upd_same, List.map_reverse, List.map_map]
          rfl
/-- the law's own def -/
inductive IsLaw : List Stmt → List Stmt → Prop
  | mk {p1 p2 p3 p4 p5 : Pos} {rest : List Stmt} : IsLaw (.Assign [.Name "source" p1] (.Call (.Name "_law_source" p2) [.Name "script" p3] [] p4) p5 :: rest) rest
def tDSx (ev : St → Option Out) : TS := fun D σ H => ∃ sa, tDS sa ev D σ H
theorem ok_law {st : Stmt} {N : List Str} {k : Nat} {Γ : Nat → Fn} {T : Tb} {rest : List Stmt} {body : Sms} {fs : Addr} {fds : FuncData} (F : Fun K "law" "law" st f fd) (S : FnScope N ["script"] (defScope st)) (hT : T.N = N) (hb : IsLaw (defBody st) rest)
    (hN0 : N[0]? = some ("script" : Str)) (hN : N[1]? = some ("source" : Str)) (hsc : visB (defScope st) "script" = true) (hso : locB true (fun _ => false) (defScope st) "source" = true) (hgl : glB (defScope st) "_law_source" = true)
    (L : Lev P w K mg base (k + 1) Γ T) (hc : cpSs (cpS T (defScope st) 24) rest = some body) (Fs : FnG P w K mg base 1 fs fds ["script"] (spSrc K)) (ms : mg "_law_source" = some (.ref fs)) (ks : PySem.W.keepIn K (.ref fs) = true) (bs : Binds K fds ["script"] [])
    (hrun : ∀ s : Src, ∃ st', execs Γ body ⟨.un :: .src :: List.replicate (N.length - 2) .un, some s⟩ = some (.rt (.dat (.bool true)) st')) :
    FnG P w K mg base (k + 2) f fd ["script"] (spLaw K) := by
  refine okG F S (fun vs H Q ⟨a, ns, e, _⟩ => by rw [e]; rfl) fun cdv A outer s H vs Q hr hg ⟨a, ns, ev, hlen, hS, q⟩ => ?_
  subst ev
  have hE := env_ok (x := "law") (f := f) (cdv := cdv) (outer := outer) (s := s) (H := H) S hT L hr hg
  have hB : BodyOk (cxOf CX0 P w K mg base N "law" (defScope st) f cdv A outer s H E0).nox := ⟨S.kind, fun _ => rfl, PassesOwn.never⟩
  have hrest : PSs (cxOf CX0 P w K mg base N "law" (defScope st) f cdv A outer s H E0).nox rest (tDSx (execs Γ body)) := ⟨fun pins s' σ H' D I ⟨sa, h⟩ =>
    (body_ok (sa := sa) (x := "law") (f := f) (cdv := cdv) (outer := outer) (s := s) (H := H) S hT L hc hr hg).run pins s' σ H' D I h⟩
  have hloc := locB_is (X := (cxOf CX0 P w K mg base N "law" (defScope st) f cdv A outer s H E0).nox) (fun _ => hB.fn) (fun _ z => by cases z) hso
  generalize defBody st = bd at hb ⊢
  cases hb
  refine ⟨_, L2.pss_cons (L2.ps_set (i := 1) S.nd hN hloc.1 (pe_callG (Fs.mono (by omega)) hr hg (glB_is hgl) ms ks bs (L2.pa_cons (L2.pe_var (i := 0) hN0 (visB_is hsc) (by decide) (by decide)) L2.pa_nil) (by decide) rfl rfl) rfl hloc.2) hrest, ?_⟩
  have h0 : (L2.start N [V.ref a])[0]? = some (some (V.ref a)) := rfl
  refine ⟨_, h0, a, ns, rfl, hlen, hS, fun H' s0 c0 src hs => ?_⟩
  obtain ⟨st', hx⟩ := hrun src
  have hl2 : 2 ≤ N.length := by
    have := (List.getElem?_eq_some_iff.mp hN).1
    omega
  refine ⟨some (s0, c0), ⟨fun _ => none, noW⟩, _, _, ⟨(fun _ _ e => nomatch e), (fun _ _ e => nomatch e), ?_, fun i => ?_, .inr ⟨s0, c0, src, rfl, rfl, hs⟩⟩, hx, fun v σ' g' H2 R' E' O' => ?_⟩
  · simp only [List.length_cons, List.length_replicate, List.length_set]
    unfold L2.start
    simp only [List.length_append, List.length_map, List.length_cons, List.length_nil, List.length_replicate]
    omega
  · match i with
    | 0 => trivial
    | 1 =>
      refine ⟨s0, c0, rfl, ?_⟩
      rw [List.getElem?_set_self]
      unfold L2.start
      simp only [List.length_append, List.length_map, List.length_cons, List.length_nil, List.length_replicate]
      omega
    | i + 2 =>
      have : (⟨.un :: .src :: List.replicate (N.length - 2) .un, some src⟩ : Pf.St).get (i + 2) = .un := by
        unfold St.get
        simp only [List.getD_eq_getElem?_getD, List.getElem?_cons_succ, List.getElem?_replicate]
        split <;> rfl
      rw [this]
      trivial
  · have O' : Dt g'.Z v (.bool true) := O'
    cases O'
    exact q H2
end
end Pf

set_option maxRecDepth 100000
/-! Pf15: what the common defs compute, in plain Lean. -/
namespace Pf
open PySem
def b_pick : Sms := (.cons (.whl 1000000 [] (.and2 (.op2 .gt (.var 1) (.cst (.int 1))) (.and2 (.op2 .lt (.sget 0 .left) (.cst (.int 2))) (.op2 .gt (.slen 0) (.cst (.int 0))))) (.cons (.sset 0 .left (.spop 0)) .nil)) (.cons (.set 2 (.sget 0 .left)) (.cons (.ite (.or2 (.op2 .lt (.var 1) (.cst (.int 2))) (.op2 .gt (.var 2) (.cst (.int 1)))) (.cons (.sset 0 .left (.op2 .fdiv (.var 2) (.bi .max2 (.cons (.cst (.int 1)) (.cons (.var 1) .nil))))) (.cons (.ret (.op2 .mod (.bi .int (.cons (.var 2) .nil)) (.bi .max2 (.cons (.cst (.int 1)) (.cons (.var 1) .nil))))) .nil)) .nil) (.cons (.sset 0 .turn (.op2 .add (.sget 0 .turn) (.cst (.int 1)))) (.cons (.set 3 (.op2 .mod (.bi .int (.cons (.op2 .add (.sget 0 .mixed) (.op2 .mul (.sget 0 .turn) (.cst (.int 104729)))) .nil)) (.cst (.int 998244353)))) (.cons (.set 3 (.op2 .mod (.bi .int (.cons (.op2 .add (.op2 .mul (.var 3) (.var 3)) (.op2 .mul (.sget 0 .turn) (.cst (.int 17)))) .nil)) (.cst (.int 2147483647)))) (.cons (.sset 0 .mixed (.var 3)) (.cons (.ret (.op2 .mod (.bi .int (.cons (.op2 .fdiv (.var 3) (.cst (.int 16))) .nil)) (.var 1))) .nil))))))))
def popL (many : Int) : Nat → Src → Src
  | 0, s => s
  | n + 1, s => if 1 < many ∧ s.left < 2 then popL many n ⟨s.cells.dropLast, s.cells.getLast?.getD 0, s.mixed, s.turn⟩ else s
def mx1 (many : Int) : Int := if many > 1 then many else 1
def pickT (s : Src) (many : Int) : Int × Src :=
  if many < 2 ∨ 1 < s.left then (s.left.fmod (mx1 many), s.setf (s.left.fdiv (mx1 many)) .left)
  else
    let m1 := (s.mixed + (s.turn + 1) * 104729).fmod 998244353
    let m2 := (m1 * m1 + (s.turn + 1) * 17).fmod 2147483647
    ((m2.fdiv 16).fmod many, ⟨s.cells, s.left, m2, s.turn + 1⟩)
def pickM (s : Src) (many : Int) : Int × Src := pickT (popL many s.cells.length s) many
/-! simp set -/
@[simp] theorem get_lit {l : List Sl} {s : Option Src} {i : Nat} : (⟨l, s⟩ : St).get i = l[i]?.getD .un := by
  unfold St.get
  simp
@[simp] theorem put_lit {l : List Sl} {s : Option Src} {i : Nat} {x : Sl} : (⟨l, s⟩ : St).put i x = ⟨l.set i x, s⟩ := rfl
theorem whl_step {tmp : List Nat} {c : St → Option (Bool × St)} {f : St → Option Out} {n : Nat} {st s1 s2 : St} (h : c (clear tmp st) = some (true, s1)) (h2 : f s1 = some (.nx s2)) : whlRun tmp c f (n + 1) st = whlRun tmp c f n s2 := by
  simp only [whlRun, h, Option.bind_some, if_true, h2]
theorem whl_stop {tmp : List Nat} {c : St → Option (Bool × St)} {f : St → Option Out} {n : Nat} {st s1 : St} (h : c (clear tmp st) = some (false, s1)) : whlRun tmp c f (n + 1) st = some (.nx s1) := by
  simp only [whlRun, h, Option.bind_some, Bool.false_eq_true, if_false]
theorem pick_loop (Γ : Nat → Fn) (many : Int) (x y : Sl) : ∀ (n F : Nat) (s : Src), s.cells.length = n → n < F →
    whlRun [] (fun t => asBool (eval Γ (.and2 (.op2 .gt (.var 1) (.cst (.int 1))) (.and2 (.op2 .lt (.sget 0 .left) (.cst (.int 2))) (.op2 .gt (.slen 0) (.cst (.int 0))))) t)) (fun t => execs Γ (.cons (.sset 0 .left (.spop 0)) .nil) t) F ⟨[.src, .dat (.int many), x, y], some s⟩
      = some (.nx ⟨[.src, .dat (.int many), x, y], some (popL many n s)⟩) := by
  intro n
  induction n with
  | zero =>
    intro F s hn hF
    obtain ⟨F, rfl⟩ : ∃ F', F = F' + 1 := ⟨F - 1, by omega⟩
    refine whl_stop ?_
    by_cases h1 : 1 < many <;> by_cases h2 : s.left < 2 <;> simp [clear, eval, evOp2, evCmp, asBool, Src.fld, res, hn, popL, h1, h2]
  | succ n ih =>
    intro F s hn hF
    obtain ⟨F, rfl⟩ : ∃ F', F = F' + 1 := ⟨F - 1, by omega⟩
    by_cases h : 1 < many ∧ s.left < 2
    · obtain ⟨h1, h2⟩ := h
      have h3 : 0 < s.cells.length := by omega
      have h4 : s.cells[s.cells.length - 1]? = some (s.cells.getLast?.getD 0) := by
        rw [← List.getLast?_eq_getElem?]
        cases q : s.cells.getLast? with
        | none => rw [List.getLast?_eq_none_iff] at q; rw [q] at hn; cases hn
        | some c => rfl
      rw [whl_step (s1 := ⟨[.src, .dat (.int many), x, y], some s⟩) (s2 := ⟨[.src, .dat (.int many), x, y], some ⟨s.cells.dropLast, s.cells.getLast?.getD 0, s.mixed, s.turn⟩⟩)
        (by simp [clear, eval, evOp2, evCmp, asBool, Src.fld, res, h1, h2, h3]) (by simp [eval, execs, exec, Src.setf, h4])]
      rw [ih F _ (by simp [hn]) (by omega)]
      simp [popL, h1, h2]
    · refine (whl_stop (s1 := ⟨[.src, .dat (.int many), x, y], some s⟩) ?_).trans ?_
      · by_cases h1 : 1 < many
        · have h2 : ¬ s.left < 2 := fun q => h ⟨h1, q⟩
          simp [clear, eval, evOp2, evCmp, asBool, Src.fld, res, h1, h2]
        · simp [clear, eval, evOp2, evCmp, asBool, Src.fld, res, h1]
      · simp only [popL, if_neg h]
theorem fmod_pos (a : Int) {b : Int} (h : 0 < b) : 0 ≤ a.fmod b ∧ a.fmod b < b := ⟨Int.fmod_nonneg_of_pos a h, Int.fmod_lt_of_pos a h⟩
theorem execs_nx {Γ : Nat → Fn} {s : Sm} {ss : Sms} {st st' : St} (h : exec Γ s st = some (.nx st')) : execs Γ (.cons s ss) st = execs Γ ss st' := by
  simp only [execs, h, Option.bind_some]
theorem execs_rt {Γ : Nat → Fn} {s : Sm} {ss : Sms} {st st' : St} {r : Rv} (h : exec Γ s st = some (.rt r st')) : execs Γ (.cons s ss) st = some (.rt r st') := by
  simp only [execs, h, Option.bind_some]
theorem runS_rt {Γ : Nat → Fn} {n : Nat} {body : Sms} {ds : List D} {s s' : Src} {r : Rv} {env : List Sl} (h : execs Γ body ⟨ds.map argSl ++ List.replicate n .un, some s⟩ = some (.rt r ⟨env, some s'⟩)) : runS Γ n body ds s = some (r, s') := by
  unfold runS
  rw [h]
  rfl
theorem runP_rt {Γ : Nat → Fn} {n : Nat} {body : Sms} {ds : List D} {r : Rv} {st : St} (h : execs Γ body ⟨ds.map argSl ++ List.replicate n .un, none⟩ = some (.rt r st)) : runP Γ n body ds = some r := by
  unfold runP
  rw [h]
theorem pick_run (Γ : Nat → Fn) (s : Src) (many : Int) (hm : many < 1073741824) : runS Γ 2 b_pick [srcD, .int many] s = some (.dat (.int (pickM s many).1), (pickM s many).2) := by
  have hl := pick_loop Γ many .un .un s.cells.length (1000000 + srcLen (some s)) s rfl (by show s.cells.length < 1000000 + s.cells.length; omega)
  have hx : mx1 many ≠ 0 ∧ (mx1 many).natAbs < 1073741824 := by unfold mx1; split <;> omega
  have hx' : (if many > 1 then many else 1) = mx1 many := rfl
  have hx2 : (if 1 < many then many else 1) = mx1 many := rfl
  unfold pickM
  generalize popL many s.cells.length s = t at hl
  unfold b_pick
  by_cases h1 : many < 2 ∨ 1 < t.left
  · rw [show pickT t many = (t.left.fmod (mx1 many), t.setf (t.left.fdiv (mx1 many)) .left) from if_pos h1]
    have htest : asBool (eval Γ (.or2 (.op2 .lt (.var 1) (.cst (.int 2))) (.op2 .gt (.var 2) (.cst (.int 1)))) ⟨[.src, .dat (.int many), .dat (.int t.left), .un], some t⟩) = some (true, ⟨[.src, .dat (.int many), .dat (.int t.left), .un], some t⟩) := by
      by_cases h2 : many < 2
      · simp [eval, evOp2, evCmp, asBool, res, h2]
      · simp [eval, evOp2, evCmp, asBool, res, h2, h1.resolve_left h2]
    refine runS_rt (env := [.src, .dat (.int many), .dat (.int t.left), .un]) ?_
    refine (execs_nx (st' := ⟨[.src, .dat (.int many), .un, .un], some t⟩) (by simp only [exec]; exact hl)).trans ?_
    refine (execs_nx (st' := ⟨[.src, .dat (.int many), .dat (.int t.left), .un], some t⟩) (by simp [exec, eval, keep, Src.fld])).trans ?_
    refine execs_rt ?_
    simp only [exec, htest, Option.bind_some, if_true]
    simp [execs, exec, eval, evalv, resAll, res, evBi, ev2, ev1, bMax2, bInt, evOp2, evInt, divOk, hx, hx', hx2, Src.setf]
  · rw [show pickT t many = ((((((t.mixed + (t.turn + 1) * 104729).fmod 998244353) * ((t.mixed + (t.turn + 1) * 104729).fmod 998244353) + (t.turn + 1) * 17).fmod 2147483647).fdiv 16).fmod many, ⟨t.cells, t.left, (((t.mixed + (t.turn + 1) * 104729).fmod 998244353) * ((t.mixed + (t.turn + 1) * 104729).fmod 998244353) + (t.turn + 1) * 17).fmod 2147483647, t.turn + 1⟩) from if_neg h1]
    obtain ⟨h2, h3⟩ : ¬ many < 2 ∧ ¬ 1 < t.left := ⟨fun h => h1 (.inl h), fun h => h1 (.inr h)⟩
    have hm0 : many ≠ 0 := by omega
    have hb := fmod_pos (t.mixed + (t.turn + 1) * 104729) (b := 998244353) (by omega)
    have hs1 : smallI ((t.mixed + (t.turn + 1) * 104729).fmod 998244353) = true := by
      unfold smallI
      exact decide_eq_true (by omega)
    have hs2 : smallI 104729 = true := by decide
    have hs3 : smallI 17 = true := by decide
    have htest : asBool (eval Γ (.or2 (.op2 .lt (.var 1) (.cst (.int 2))) (.op2 .gt (.var 2) (.cst (.int 1)))) ⟨[.src, .dat (.int many), .dat (.int t.left), .un], some t⟩) = some (false, ⟨[.src, .dat (.int many), .dat (.int t.left), .un], some t⟩) := by
      simp [eval, evOp2, evCmp, asBool, res, h2, h3]
    refine runS_rt (env := [.src, .dat (.int many), .dat (.int t.left), .dat (.int ((((t.mixed + (t.turn + 1) * 104729).fmod 998244353) * ((t.mixed + (t.turn + 1) * 104729).fmod 998244353) + (t.turn + 1) * 17).fmod 2147483647))]) ?_
    refine (execs_nx (st' := ⟨[.src, .dat (.int many), .un, .un], some t⟩) (by simp only [exec]; exact hl)).trans ?_
    refine (execs_nx (st' := ⟨[.src, .dat (.int many), .dat (.int t.left), .un], some t⟩) (by simp [exec, eval, keep, Src.fld])).trans ?_
    refine (execs_nx (st' := ⟨[.src, .dat (.int many), .dat (.int t.left), .un], some t⟩) (by simp only [exec, htest, Option.bind_some, Bool.false_eq_true, if_false, execs])).trans ?_
    simp [execs, exec, eval, evalv, resAll, res, evBi, ev2, ev1, bMax2, bInt, evOp2, evAdd, evMul, evInt, divOk, keep, Src.fld, Src.setf, hs1, hs2, hs3, hm0]
theorem pickM_lt (s : Src) {many : Int} (h : 1 ≤ many) : 0 ≤ (pickM s many).1 ∧ (pickM s many).1 < many := by
  unfold pickM pickT
  dsimp only
  split
  · have : mx1 many = many := by unfold mx1; split <;> omega
    rw [this]
    exact fmod_pos _ (by omega)
  · exact fmod_pos _ (by omega)
end Pf

set_option maxRecDepth 100000
/-! Pf16: the common defs of the laws: of, mixed, frame. -/
namespace Pf
open PySem
@[simp] theorem argSl_src : argSl srcD = .src := rfl
structure HasPick (Γ : Nat → Fn) (p : Nat) : Prop where
  run : ∀ (s : Src) (m : Int), 1 ≤ m → m < 1073741824 → ∃ r s', (Γ p).runS [srcD, .int m] s = some (.dat (.int r), s') ∧ 0 ≤ r ∧ r < m
theorem hasPick {Γ Γ' : Nat → Fn} {p : Nat} (h : Γ p = .srcd (runS Γ' 2 b_pick)) : HasPick Γ p :=
  ⟨fun s m h1 h2 => ⟨_, _, by rw [h]; exact pick_run Γ' s m h2, (pickM_lt s h1).1, (pickM_lt s h1).2⟩⟩
def b_of (p : Nat) : Sms := (.cons (.ret (.idx (.var 1) (.callS p (.cons (.var 0) (.cons (.bi .len (.cons (.var 1) .nil)) .nil))))) .nil)
structure HasOf (Γ : Nat → Fn) (p : Nat) : Prop where
  run : ∀ (s : Src) (x : D) (xs : List D), items x = some xs → xs ≠ [] → xs.length < 1073741824 → ∃ d s', (Γ p).runS [srcD, x] s = some (.dat d, s') ∧ d ∈ xs
theorem atI_nat' {α : Type} {xs : List α} {r : Int} (h0 : 0 ≤ r) (h1 : r < xs.length) : ∃ x, L2.atI xs r = some x ∧ xs[r.toNat]? = some x := by
  have h2 : r.toNat < xs.length := by omega
  refine ⟨xs[r.toNat], ?_, List.getElem?_eq_getElem h2⟩
  have := L2.atI_nat (xs := xs) (j := r.toNat) (List.getElem?_eq_getElem h2)
  rw [show ((r.toNat : Nat) : Int) = r by omega] at this
  exact this
theorem argSl_items {x : D} {xs : List D} (h : items x = some xs) : argSl x = .dat x := by
  cases x <;> first
    | rfl
    | cases h
theorem evIdx_items {x : D} {xs : List D} {r : Int} {d : D} (h : items x = some xs) (h2 : L2.atI xs r = some d) : evIdx x (.int r) = some d := by
  cases x <;> simp only [items, reduceCtorEq, Option.some.injEq] at h <;> subst h <;> exact h2
theorem bLen_items {x : D} {xs : List D} (h : items x = some xs) : bLen x = some (.dat (.int xs.length)) := by
  cases x <;> simp only [items, reduceCtorEq, Option.some.injEq] at h <;> subst h <;> rfl
theorem of_run {Γ : Nat → Fn} {p : Nat} (hp : HasPick Γ p) (s : Src) {x : D} {xs : List D} (hx : items x = some xs) (hne : xs ≠ []) (hl : xs.length < 1073741824) : ∃ d s', runS Γ 0 (b_of p) [srcD, x] s = some (.dat d, s') ∧ d ∈ xs := by
  have hpos : 0 < xs.length := List.length_pos_iff.mpr hne
  obtain ⟨r, s', hr, h0, h1⟩ := hp.run s xs.length (by omega) (by omega)
  obtain ⟨d, e1, e2⟩ := atI_nat' h0 (by omega)
  refine ⟨d, s', ?_, List.mem_of_getElem? e2⟩
  have e3 := evIdx_items hx e1
  refine runS_rt (env := [.src, .dat x]) ?_
  show execs Γ (b_of p) ⟨[argSl srcD, argSl x], some s⟩ = _
  rw [argSl_items hx]
  unfold b_of
  refine execs_rt ?_
  simp [exec, eval, evala, evalv, frzA, frz, res, resAll, evBi, ev1, bLen_items hx, hr, e3, argSl_src]
theorem hasOf {Γ Γ' : Nat → Fn} {p q : Nat} (h : Γ p = .srcd (runS Γ' 0 (b_of q))) (hq : HasPick Γ' q) : HasOf Γ p :=
  ⟨fun s x xs h1 h2 h3 => by rw [h]; exact of_run hq s h1 h2 h3⟩
/-! mixed -/
def b_mixed (p : Nat) : Sms := (.cons (.set 2 (.bi .list (.cons (.var 1) .nil))) (.cons (.ret (.comp [3] (.name 3) (.rng1 (.bi .len (.cons (.var 2) .nil))) .nop (.pop 2 (.callS p (.cons (.var 0) (.cons (.bi .len (.cons (.var 2) .nil)) .nil)))))) .nil))
theorem perm_erase {xs : List D} {j : Nat} {d : D} (h : xs[j]? = some d) : (d :: xs.eraseIdx j).Perm xs := by
  induction xs generalizing j with
  | nil => simp at h
  | cons x xs ih =>
    cases j with
    | zero => simp at h; subst h; simp
    | succ j =>
      simp at h
      simp only [List.eraseIdx_cons_succ]
      exact (List.Perm.swap x d _).trans ((ih h).cons x)
theorem mixed_comp {Γ : Nat → Fn} {p : Nat} (hp : HasPick Γ p) (x : Sl) : ∀ (m : Nat) (rest laps : List D) (s : Src), rest.length = m → laps.length = m → m < 1073741824 →
    ∃ ys s', compRun (fun d s => (bindT (.name 3) d s).bind fun s => (evalC Γ .nop s).bind fun b => if b.1 then (eval Γ (.pop 2 (.callS p (.cons (.var 0) (.cons (.bi .len (.cons (.var 2) .nil)) .nil)))) b.2).bind fun r => (frz r.2 r.1).map fun x => (some x.1, hide [3] x.2) else some (none, hide [3] b.2)) laps ⟨[.src, x, .lst rest, .un], some s⟩
      = some (ys, ⟨[.src, x, .lst [], .un], some s'⟩) ∧ ys.Perm rest := by
  intro m
  induction m with
  | zero =>
    intro rest laps s h1 h2 _
    rw [List.length_eq_zero_iff] at h1 h2
    subst h1 h2
    exact ⟨[], s, rfl, List.Perm.refl _⟩
  | succ m ih =>
    intro rest laps s h1 h2 h3
    obtain ⟨lap, laps, rfl⟩ : ∃ a l, laps = a :: l := by
      cases laps with
      | nil => cases h2
      | cons a l => exact ⟨a, l, rfl⟩
    obtain ⟨r, s', hr, h0, h4⟩ := hp.run s rest.length (by omega) (by omega)
    have hj : L2.ixN rest.length r = some r.toNat := by
      unfold L2.ixN
      rw [if_pos h0, if_pos h4]
    have hlt : r.toNat < rest.length := by omega
    have hd : rest[r.toNat]? = some rest[r.toNat] := List.getElem?_eq_getElem hlt
    have hf : fitI r = true := by unfold fitI; exact decide_eq_true (by omega)
    obtain ⟨ys, s2, e1, e2⟩ := ih (rest.eraseIdx r.toNat) laps s' (by rw [List.length_eraseIdx_of_lt hlt]; omega) (by simpa using h2) (by omega)
    refine ⟨rest[r.toNat] :: ys, s2, ?_, (e2.cons _).trans (perm_erase hd)⟩
    simp only [compRun]
    have step : (bindT (.name 3) lap ⟨[.src, x, .lst rest, .un], some s⟩).bind (fun s => (evalC Γ .nop s).bind fun b => if b.1 then (eval Γ (.pop 2 (.callS p (.cons (.var 0) (.cons (.bi .len (.cons (.var 2) .nil)) .nil)))) b.2).bind fun r => (frz r.2 r.1).map fun x => (some x.1, hide [3] x.2) else some (none, hide [3] b.2))
        = some (some rest[r.toNat], ⟨[.src, x, .lst (rest.eraseIdx r.toNat), .un], some s'⟩) := by
      simp [bindT, evalC, eval, evalO, evala, evalv, frzA, frz, res, resAll, evBi, ev1, bLen, items, isLst, hr, hj, hd, hf, hide, unAt]
    rw [step]
    simp only [Option.bind_some, e1]
structure HasMixed (Γ : Nat → Fn) (p : Nat) : Prop where
  run : ∀ (s : Src) (x : D) (xs : List D), items x = some xs → xs.length ≤ 16777216 → ∃ ys s', (Γ p).runS [srcD, x] s = some (.lst ys, s') ∧ ys.Perm xs
theorem mixed_run {Γ : Nat → Fn} {p : Nat} (hp : HasPick Γ p) (s : Src) {x : D} {xs : List D} (hx : items x = some xs) (hl : xs.length ≤ 16777216) : ∃ ys s', runS Γ 2 (b_mixed p) [srcD, x] s = some (.lst ys, s') ∧ ys.Perm xs := by
  obtain ⟨ys, s', e1, e2⟩ := mixed_comp hp (.dat x) xs.length xs ((List.range xs.length).map fun (k : Nat) => .int (k : Int)) s rfl (by simp) (by omega)
  refine ⟨ys, s', ?_, e2⟩
  refine runS_rt (env := [.src, .dat x, .lst [], .un]) ?_
  show execs Γ (b_mixed p) ⟨[argSl srcD, argSl x, .un, .un], some s⟩ = _
  rw [argSl_items hx]
  unfold b_mixed
  refine (execs_nx (st' := ⟨[.src, .dat x, .lst xs, .un], some s⟩) (by simp [exec, eval, evalv, res, resAll, evBi, ev1, bList, hx, keep])).trans ?_
  refine execs_rt ?_
  have hI : evalI Γ (.rng1 (.bi .len (.cons (.var 2) .nil))) ⟨[.src, .dat x, .lst xs, .un], some s⟩ = some ((List.range xs.length).map fun (k : Nat) => .int (k : Int), ⟨[.src, .dat x, .lst xs, .un], some s⟩) := by
    have h1 : (xs.length : Int) ≤ 16777216 := by omega
    have h2 : xs.length < 4611686018427387904 := by omega
    simp [h1, h2, evalI, eval, evalv, res, resAll, evBi, ev1, bLen, items]
  have hz : ys.length ≤ sizeLine := by
    rw [e2.length_eq]
    show xs.length ≤ 16777216
    exact hl
  have hc : eval Γ (.comp [3] (.name 3) (.rng1 (.bi .len (.cons (.var 2) .nil))) .nop (.pop 2 (.callS p (.cons (.var 0) (.cons (.bi .len (.cons (.var 2) .nil)) .nil))))) ⟨[.src, .dat x, .lst xs, .un], some s⟩ = some (.lst ys, ⟨[.src, .dat x, .lst [], .un], some s'⟩) := by
    rw [eval, hI]
    simp only [Option.bind_some]
    have hb : hide [3] (frzAll [3] (⟨[.src, .dat x, .lst xs, .un], some s⟩ : St)) = ⟨[.src, .dat x, .lst xs, .un], some s⟩ := rfl
    rw [hb, e1]
    simp only [Option.bind_some, hz, if_true]
    rfl
  simp only [exec, hc, Option.bind_some]
theorem hasMixed {Γ Γ' : Nat → Fn} {p q : Nat} (h : Γ p = .srcd (runS Γ' 2 (b_mixed q))) (hq : HasPick Γ' q) : HasMixed Γ p :=
  ⟨fun s x xs h1 h2 => by rw [h]; exact mixed_run hq s h1 h2⟩
end Pf

set_option maxRecDepth 100000
/-! Pf17: the common def that makes a frame. -/
namespace Pf
open PySem
theorem forRun_congr {tmp : List Nat} {f : D → St → Option Out} {ds : List D} {st st' : St} (h : clear tmp st = clear tmp st') : forRun tmp f ds st = forRun tmp f ds st' := by
  cases ds with
  | nil => simp only [forRun, h]
  | cons d ds => simp only [forRun, h]
theorem forRun_nx {tmp : List Nat} {f : D → St → Option Out} {d : D} {ds : List D} {st st1 : St} (h : f d (clear tmp st) = some (.nx st1)) : forRun tmp f (d :: ds) st = forRun tmp f ds st1 := by
  simp only [forRun, h, Option.bind_some]
theorem forRun_rt {tmp : List Nat} {f : D → St → Option Out} {d : D} {ds : List D} {st st1 : St} {r : Rv} (h : f d (clear tmp st) = some (.rt r st1)) : forRun tmp f (d :: ds) st = some (.rt r st1) := by
  simp only [forRun, h, Option.bind_some]
theorem forRun_ex {tmp : List Nat} {f : D → St → Option Out} (P : Nat → St → Prop) : ∀ (ds : List D) (i : Nat) (st : St), P i (clear tmp st) → (∀ (i : Nat) (st : St) (d : D), d ∈ ds → P i st → ∃ st', (f d st = some (.nx st') ∨ f d st = some (.ct st')) ∧ P (i + 1) (clear tmp st')) →
    ∃ st', forRun tmp f ds st = some (.nx st') ∧ P (i + ds.length) st'
  | [], i, st, h, _ => ⟨_, rfl, h⟩
  | d :: ds, i, st, h, step => by
    obtain ⟨st1, e, h1⟩ := step i _ d (by simp) h
    obtain ⟨st2, e2, h2⟩ := forRun_ex P ds (i + 1) st1 h1 fun i st d hd => step i st d (by simp [hd])
    refine ⟨st2, ?_, by rw [List.length_cons, show i + (ds.length + 1) = i + 1 + ds.length by omega]; exact h2⟩
    rcases e with e | e <;> simp only [forRun, e, Option.bind_some] <;> exact e2
abbrev Road := Int × Int × Int
def rdD (r : Road) : D := .tuple [.int r.1, .int r.2.1, .int r.2.2]
def frD (n : Int) (rs : List Road) : D := .tuple [.int n, .tuple (rs.map rdD)]
def RoadOk (n : Int) (r : Road) : Prop := (0 ≤ r.1 ∧ r.1 < n) ∧ (0 ≤ r.2.1 ∧ r.2.1 < n) ∧ (r.2.2 = 1 ∨ r.2.2 = -1)
def b_road (pk ofi : Nat) : Sms := (.cons (.asgN [7, 8, 9] (.cons (.callS pk (.cons (.var 0) (.cons (.var 3) .nil))) (.cons (.callS pk (.cons (.var 0) (.cons (.var 3) .nil))) (.cons (.callS ofi (.cons (.var 0) (.cons (.lst (.cons (.cst (.int 1)) (.cons (.neg (.cst (.int 1))) .nil))) .nil))) .nil)))) (.cons (.ite (.and2 (.op2 .eq (.var 7) (.var 8)) (.op2 .gt (.callS pk (.cons (.var 0) (.cons (.cst (.int 3)) .nil))) (.cst (.int 0)))) (.cons (.set 8 (.op2 .sub (.op2 .sub (.var 3) (.cst (.int 1))) (.var 7))) .nil) .nil) (.cons (.ite (.op2 .eq (.var 7) (.var 8)) (.cons (.set 9 (.ite (.op2 .gt (.callS pk (.cons (.var 0) (.cons (.cst (.int 6)) .nil))) (.cst (.int 0))) (.neg (.cst (.int 1))) (.var 9))) .nil) .nil) (.cons (.app 4 (.tup (.cons (.idx (.var 5) (.var 7)) (.cons (.idx (.var 5) (.var 8)) (.cons (.var 9) .nil))))) .nil))))
def b_frame (pk ofi mx : Nat) : Sms := (.cons (.asgN [3, 4] (.cons (.op2 .add (.cst (.int 1)) (.callS pk (.cons (.var 0) (.cons (.var 1) .nil)))) (.cons (.lst .nil) .nil))) (.cons (.set 5 (.callS mx (.cons (.var 0) (.cons (.rngL false .nop (.var 3)) .nil)))) (.cons (.for [6, 7, 8, 9] (.name 6) (.rng1 (.callS pk (.cons (.var 0) (.cons (.op2 .add (.var 2) (.cst (.int 1))) .nil)))) (b_road pk ofi)) (.cons (.ret (.tup (.cons (.var 3) (.cons (.bi .tuple (.cons (.var 4) .nil)) .nil)))) .nil))))
section
variable {Γ : Nat → Fn} {pk ofi mx : Nat}
theorem evEq_int (i j : Int) : evEq (.int i) (.int j) = some (decide (i = j)) := by
  simp only [evEq, okD, Bool.and_self, if_true, PyData.eqv]
  rfl
/-- one road -/
theorem road_run (hp : HasPick Γ pk) (ho : HasOf Γ ofi) (most many n : Int) (hn1 : 1 ≤ n) (hn2 : n < 1073741824) (rs : List Road) (names : List D) (hnm : ∀ j : Int, 0 ≤ j → j < n → ∃ c : Int, L2.atI names j = some (.int c) ∧ 0 ≤ c ∧ c < n) (hl : rs.length < 16777216) (lap : D) (s : Src) :
    ∃ r s' x y z, RoadOk n r ∧ execs Γ (b_road pk ofi) ⟨[.src, .dat (.int most), .dat (.int many), .dat (.int n), .lst (rs.map rdD), .lst names, .dat lap, .un, .un, .un], some s⟩
      = some (.nx ⟨[.src, .dat (.int most), .dat (.int many), .dat (.int n), .lst ((rs ++ [r]).map rdD), .lst names, .dat lap, x, y, z], some s'⟩) := by
  obtain ⟨a, s1, ha, a0, a1⟩ := hp.run s n hn1 hn2
  obtain ⟨b, s2, hb, b0, b1⟩ := hp.run s1 n hn1 hn2
  obtain ⟨g, s3, hg, gm⟩ := ho.run s2 (.list [.int 1, .int (-1)]) _ rfl (by simp) (by simp)
  have hg' : ∃ sg : Int, g = .int sg ∧ (sg = 1 ∨ sg = -1) := by
    simp only [List.mem_cons, List.not_mem_nil, or_false] at gm
    rcases gm with rfl | rfl
    · exact ⟨1, rfl, .inl rfl⟩
    · exact ⟨-1, rfl, .inr rfl⟩
  obtain ⟨sg, rfl, hsg⟩ := hg'
  -- b
  have st2 : ∃ (b' : Int) (s4 : Src), (0 ≤ b' ∧ b' < n) ∧ exec Γ (.ite (.and2 (.op2 .eq (.var 7) (.var 8)) (.op2 .gt (.callS pk (.cons (.var 0) (.cons (.cst (.int 3)) .nil))) (.cst (.int 0)))) (.cons (.set 8 (.op2 .sub (.op2 .sub (.var 3) (.cst (.int 1))) (.var 7))) .nil) .nil)
      ⟨[.src, .dat (.int most), .dat (.int many), .dat (.int n), .lst (rs.map rdD), .lst names, .dat lap, .dat (.int a), .dat (.int b), .dat (.int sg)], some s3⟩
        = some (.nx ⟨[.src, .dat (.int most), .dat (.int many), .dat (.int n), .lst (rs.map rdD), .lst names, .dat lap, .dat (.int a), .dat (.int b'), .dat (.int sg)], some s4⟩) := by
    by_cases hab : a = b
    · obtain ⟨c, s4, hc, c0, c1⟩ := hp.run s3 3 (by omega) (by omega)
      by_cases hc0 : 0 < c
      · refine ⟨n - 1 - a, s4, ⟨by omega, by omega⟩, ?_⟩
        simp [exec, execs, eval, evala, frzA, frz, res, asBool, evOp2, evCmp, evInt, bo, evEq_int, hab, hc, hc0, keep]
      · refine ⟨b, s4, ⟨b0, b1⟩, ?_⟩
        simp [exec, execs, eval, evala, frzA, frz, res, asBool, evOp2, evCmp, evInt, bo, evEq_int, hab, hc, hc0, keep]
    · refine ⟨b, s3, ⟨b0, b1⟩, ?_⟩
      simp [exec, execs, eval, evala, frzA, frz, res, asBool, evOp2, evCmp, evInt, bo, evEq_int, hab, keep]
  obtain ⟨b', s4, hb', e2⟩ := st2
  have st3 : ∃ (g' : Int) (s5 : Src), (g' = 1 ∨ g' = -1) ∧ exec Γ (.ite (.op2 .eq (.var 7) (.var 8)) (.cons (.set 9 (.ite (.op2 .gt (.callS pk (.cons (.var 0) (.cons (.cst (.int 6)) .nil))) (.cst (.int 0))) (.neg (.cst (.int 1))) (.var 9))) .nil) .nil)
      ⟨[.src, .dat (.int most), .dat (.int many), .dat (.int n), .lst (rs.map rdD), .lst names, .dat lap, .dat (.int a), .dat (.int b'), .dat (.int sg)], some s4⟩
        = some (.nx ⟨[.src, .dat (.int most), .dat (.int many), .dat (.int n), .lst (rs.map rdD), .lst names, .dat lap, .dat (.int a), .dat (.int b'), .dat (.int g')], some s5⟩) := by
    by_cases hab : a = b'
    · obtain ⟨c, s5, hc, c0, c1⟩ := hp.run s4 6 (by omega) (by omega)
      by_cases hc0 : 0 < c
      · refine ⟨-1, s5, .inr rfl, ?_⟩
        simp [exec, execs, eval, evala, frzA, frz, res, asBool, evOp2, evCmp, evNeg, bo, evEq_int, hab, hc, hc0, keep]
      · refine ⟨sg, s5, hsg, ?_⟩
        simp [exec, execs, eval, evala, frzA, frz, res, asBool, evOp2, evCmp, evNeg, bo, evEq_int, hab, hc, hc0, keep]
    · refine ⟨sg, s4, hsg, ?_⟩
      simp [exec, execs, eval, evala, frzA, frz, res, asBool, evOp2, evCmp, bo, evEq_int, hab, keep]
  obtain ⟨g', s5, hg', e3⟩ := st3
  obtain ⟨ca, fa, fa0, fa1⟩ := hnm a a0 a1
  obtain ⟨cb, fb, fb0, fb1⟩ := hnm b' hb'.1 hb'.2
  refine ⟨(ca, cb, g'), s5, .dat (.int a), .dat (.int b'), .dat (.int g'), ⟨⟨fa0, fa1⟩, ⟨fb0, fb1⟩, hg'⟩, ?_⟩
  unfold b_road
  refine (execs_nx (st' := ⟨[.src, .dat (.int most), .dat (.int many), .dat (.int n), .lst (rs.map rdD), .lst names, .dat lap, .dat (.int a), .dat (.int b), .dat (.int sg)], some s3⟩) ?_).trans ?_
  · simp [exec, evalk, eval, evala, evals, evNeg, frzA, frz, unview, res, keeps, keep, ha, hb, hg, sizeLine_eq]
  refine (execs_nx e2).trans ((execs_nx e3).trans ?_)
  have hz : (rs.map rdD).length < sizeLine := by
    rw [List.length_map, PySem.sizeLine_eq]
    exact hl
  refine (execs_nx (st' := ⟨[.src, .dat (.int most), .dat (.int many), .dat (.int n), .lst ((rs ++ [(ca, cb, g')]).map rdD), .lst names, .dat lap, .dat (.int a), .dat (.int b'), .dat (.int g')], some s5⟩) ?_).trans rfl
  have h3 : (3 : Nat) ≤ sizeLine := by decide
  have hz' : rs.length < sizeLine := by simpa using hz
  simp [exec, eval, evals, frz, res, evIdx, isLst, fa, fb, rdD, hz', h3]
def rgL (n : Nat) : List D := (List.range n).map fun (k : Nat) => .int (0 + (k : Int))
theorem names_ok {n : Int} (hn : 0 ≤ n) {names : List D} (h : names.Perm (rgD 0 n)) : names.length = n.toNat ∧ ∀ j : Int, 0 ≤ j → j < n → ∃ c : Int, L2.atI names j = some (.int c) ∧ 0 ≤ c ∧ c < n := by
  have hl : names.length = n.toNat := by
    rw [h.length_eq]
    unfold rgD
    simp
  refine ⟨hl, fun j h0 h1 => ?_⟩
  obtain ⟨d, e1, e2⟩ := atI_nat' (xs := names) h0 (by rw [hl]; omega)
  have hm := h.mem_iff.mp (List.mem_of_getElem? e2)
  unfold rgD at hm
  simp only [List.mem_map, List.mem_range] at hm
  obtain ⟨k, hk, rfl⟩ := hm
  exact ⟨_, e1, by omega, by omega⟩
structure HasFrame (Γ : Nat → Fn) (p : Nat) : Prop where
  run : ∀ (s : Src) (most many : Int), 1 ≤ most → most ≤ 1000 → 0 ≤ many → many ≤ 1000 → ∃ n rs s', (Γ p).runS [srcD, .int most, .int many] s = some (.dat (frD n rs), s') ∧ (1 ≤ n ∧ n ≤ most) ∧ (rs.length : Int) ≤ many ∧ ∀ r ∈ rs, RoadOk n r
theorem frame_run {Γ : Nat → Fn} {pk ofi mx : Nat} (hp : HasPick Γ pk) (ho : HasOf Γ ofi) (hm : HasMixed Γ mx) (s : Src) {most many : Int} (m1 : 1 ≤ most) (m2 : most ≤ 1000) (m3 : 0 ≤ many) (m4 : many ≤ 1000) :
    ∃ n rs s', runS Γ 7 (b_frame pk ofi mx) [srcD, .int most, .int many] s = some (.dat (frD n rs), s') ∧ (1 ≤ n ∧ n ≤ most) ∧ (rs.length : Int) ≤ many ∧ ∀ r ∈ rs, RoadOk n r := by
  obtain ⟨r0, s1, h0, a0, a1⟩ := hp.run s most m1 (by omega)
  have hn : 1 ≤ 1 + r0 ∧ 1 + r0 ≤ most := by omega
  generalize hn0 : 1 + r0 = n at hn
  obtain ⟨names, s2, h1, b1⟩ := hm.run s1 (.list (rgD 0 n)) (rgD 0 n) rfl (by unfold rgD; simp; omega)
  obtain ⟨nl, nm⟩ := names_ok (by omega) b1
  obtain ⟨tn, s3, h2, c0, c1⟩ := hp.run s2 (many + 1) (by omega) (by omega)
  have hrg : rgOk 0 n = true := by
    unfold rgOk
    simp only [Bool.and_eq_true, decide_eq_true_eq]
    omega
  let S : List Road → Src → St := fun rs s => ⟨[.src, .dat (.int most), .dat (.int many), .dat (.int n), .lst (rs.map rdD), .lst names, .un, .un, .un, .un], some s⟩
  let P : Nat → St → Prop := fun i st => ∃ rs s', st = S rs s' ∧ rs.length = i ∧ i ≤ tn.toNat ∧ ∀ r ∈ rs, RoadOk n r
  let ds : List D := (List.range tn.toNat).map fun (k : Nat) => .int (k : Int)
  -- the loop, by what is left of it
  have loop : ∀ (m : Nat) (rs : List Road) (s : Src) (ds : List D), ds.length = m → rs.length + m ≤ 1000 → (∀ r ∈ rs, RoadOk n r) →
      ∃ rs' s', forRun [6, 7, 8, 9] (fun d s => (bindT (.name 6) d s).bind fun s => execs Γ (b_road pk ofi) s) ds (S rs s) = some (.nx (S rs' s')) ∧ rs'.length = rs.length + m ∧ ∀ r ∈ rs', RoadOk n r := by
    intro m
    induction m with
    | zero =>
      intro rs s ds hd hl hr
      rw [List.length_eq_zero_iff] at hd
      subst hd
      exact ⟨rs, s, rfl, rfl, hr⟩
    | succ m ih =>
      intro rs s ds hd hl hr
      obtain ⟨d, ds, rfl⟩ : ∃ a l, ds = a :: l := by
        cases ds with
        | nil => cases hd
        | cons a l => exact ⟨a, l, rfl⟩
      obtain ⟨r, s', x, y, z, hok, e⟩ := road_run hp ho most many n hn.1 (by omega) rs names nm (by omega) d s
      obtain ⟨rs', s'', e2, l2, r2⟩ := ih (rs ++ [r]) s' ds (by simpa using hd) (by simp; omega) (fun q hq => by
        rcases List.mem_append.mp hq with h | h
        · exact hr q h
        · simp at h; subst h; exact hok)
      refine ⟨rs', s'', ?_, by rw [l2]; simp; omega, r2⟩
      have e1 : (bindT (.name 6) d (clear [6, 7, 8, 9] (S rs s))).bind (fun s => execs Γ (b_road pk ofi) s) = _ := e
      exact (forRun_nx e1).trans ((forRun_congr (st := ⟨[.src, .dat (.int most), .dat (.int many), .dat (.int n), .lst ((rs ++ [r]).map rdD), .lst names, .dat d, x, y, z], some s'⟩) (st' := S (rs ++ [r]) s') rfl).trans e2)
  obtain ⟨rs, s4, e1, e2, e3⟩ := loop tn.toNat [] s3 ds (by simp [ds]) (by simp; omega) (by simp)
  refine ⟨n, rs, s4, ?_, hn, by rw [e2]; simp; omega, e3⟩
  refine runS_rt (env := [.src, .dat (.int most), .dat (.int many), .dat (.int n), .lst (rs.map rdD), .lst names, .un, .un, .un, .un]) ?_
  show execs Γ (b_frame pk ofi mx) ⟨[.src, .dat (.int most), .dat (.int many), .un, .un, .un, .un, .un, .un, .un], some s⟩ = _
  unfold b_frame
  have z0 : (0 : Nat) ≤ sizeLine := Nat.zero_le _
  have z2 : (2 : Nat) ≤ sizeLine := by decide
  refine (execs_nx (st' := ⟨[.src, .dat (.int most), .dat (.int many), .dat (.int n), .lst [], .un, .un, .un, .un, .un], some s1⟩) ?_).trans ?_
  · simp [exec, evalk, eval, evala, evals, frzA, frz, unview, res, keeps, keep, evOp2, evAdd, h0, hn0]
  refine (execs_nx (st' := ⟨[.src, .dat (.int most), .dat (.int many), .dat (.int n), .lst [], .lst names, .un, .un, .un, .un], some s2⟩) ?_).trans ?_
  · simp [exec, eval, evalO, evala, frzA, frz, keep, hrg, h1]
  refine (execs_nx (st' := S rs s4) ?_).trans ?_
  · have hI : evalI Γ (.rng1 (.callS pk (.cons (.var 0) (.cons (.op2 .add (.var 2) (.cst (.int 1))) .nil)))) ⟨[.src, .dat (.int most), .dat (.int many), .dat (.int n), .lst [], .lst names, .un, .un, .un, .un], some s2⟩ = some (ds, S [] s3) := by
      have q1 : tn ≤ 16777216 := by omega
      have q2 : tn.natAbs < 4611686018427387904 := by omega
      simp [evalI, eval, evala, frzA, frz, res, evOp2, evAdd, h2, q1, q2, ds, S]
    simp only [exec, hI, Option.bind_some]
    exact e1
  · simp [S, execs, exec, eval, evals, evalv, frz, res, resAll, evBi, ev1, bTuple, items, frD, z2]
theorem hasFrame {Γ Γ' : Nat → Fn} {p pk ofi mx : Nat} (h : Γ p = .srcd (runS Γ' 7 (b_frame pk ofi mx))) (hp : HasPick Γ' pk) (ho : HasOf Γ' ofi) (hm : HasMixed Γ' mx) : HasFrame Γ p :=
  ⟨fun s most many h1 h2 h3 h4 => by rw [h]; exact frame_run hp ho hm s h1 h2 h3 h4⟩
end
end Pf

set_option maxRecDepth 100000
/-! Pf18: tools for comprehensions and loops that draw nothing. -/
namespace Pf
open PySem
@[simp] theorem isListO_list (xs : List D) : isListO (some (.list xs)) = true := of_eq_true (eq_self _)
@[simp] theorem sortItems_lst (xs : List D) : sortItems (.list xs) = some xs := of_eq_true (eq_self _)
@[simp] theorem sortItems_dct (T : Bool) (kvs : List (D × D)) : sortItems (dctD T kvs) = some (kvs.map (·.1)) := of_eq_true (eq_self _)
@[simp] theorem dctOf_dctD (T : Bool) (kvs : List (D × D)) : dctOf (dctD T kvs) = some (T, kvs) := of_eq_true (eq_self _)
@[simp] theorem isDctO_dctD (T : Bool) (kvs : List (D × D)) : isDctO (some (dctD T kvs)) = true := of_eq_true (eq_self _)
/-! the evaluator's equations (comprehensions and loops are not unfolded) -/
section
variable (Γ : Nat → Fn) (st : St)
@[simp] theorem e_var (i : Nat) : eval Γ (.var i) st = (match st.get i with
    | .un => none
    | .dat d => some (.dat d, st)
    | .lst _ => some (.view i, st)
    | .dct _ _ => some (.view i, st)
    | .src => some (.src, st)) := by
  simp only [eval] <;> rfl
@[simp] theorem e_cst (d : D) : eval Γ (.cst d) st = (some (.dat d, st)) := by
  simp only [eval] <;> rfl
@[simp] theorem e_tup (es : Exs) : eval Γ (.tup es) st = ((evals Γ es st).bind fun p => if p.1.length ≤ sizeLine then some (.dat (.tuple p.1), p.2) else none) := by
  simp only [eval] <;> rfl
@[simp] theorem e_lst (es : Exs) : eval Γ (.lst es) st = ((evals Γ es st).bind fun p => if p.1.length ≤ sizeLine then some (.lst p.1, p.2) else none) := by
  simp only [eval] <;> rfl
@[simp] theorem e_op2 (o : Op2) (a b : Ex) : eval Γ (.op2 o a b) st = ((eval Γ a st).bind fun p => (eval Γ b p.2).bind fun q => (res q.2 p.1).bind fun x => (res q.2 q.1).bind fun y => (evOp2 o x y).map fun r => (r, q.2)) := by
  simp only [eval] <;> rfl
@[simp] theorem e_neg (a : Ex) : eval Γ (.neg a) st = ((eval Γ a st).bind fun p => (res p.2 p.1).bind fun x => (evNeg x).map fun r => (r, p.2)) := by
  simp only [eval] <;> rfl
@[simp] theorem e_not (a : Ex) : eval Γ (.not a) st = ((asBool (eval Γ a st)).map fun p => (.dat (.bool (!p.1)), p.2)) := by
  simp only [eval] <;> rfl
@[simp] theorem e_and2 (a b : Ex) : eval Γ (.and2 a b) st = ((asBool (eval Γ a st)).bind fun p => if p.1 then (asBool (eval Γ b p.2)).map fun q => (.dat (.bool q.1), q.2) else some (.dat (.bool false), p.2)) := by
  simp only [eval] <;> rfl
@[simp] theorem e_or2 (a b : Ex) : eval Γ (.or2 a b) st = ((asBool (eval Γ a st)).bind fun p => if p.1 then some (.dat (.bool true), p.2) else (asBool (eval Γ b p.2)).map fun q => (.dat (.bool q.1), q.2)) := by
  simp only [eval] <;> rfl
@[simp] theorem e_ite (c a b : Ex) : eval Γ (.ite c a b) st = ((asBool (eval Γ c st)).bind fun p => if p.1 then eval Γ a p.2 else eval Γ b p.2) := by
  simp only [eval] <;> rfl
@[simp] theorem e_idx (a i : Ex) : eval Γ (.idx a i) st = ((eval Γ a st).bind fun p => (eval Γ i p.2).bind fun q => (res q.2 p.1).bind fun x => (res q.2 q.1).bind fun y => (evIdx x y).map fun d => (.dat d, q.2)) := by
  simp only [eval] <;> rfl
@[simp] theorem e_slc (k : Sk) (a lo hi : Ex) : eval Γ (.slc k a lo hi) st = ((eval Γ a st).bind fun p => (evalO Γ lo p.2).bind fun l => (evalO Γ hi l.2).bind fun h => (res h.2 p.1).bind fun x => (evSlc k x l.1 h.1).map fun r => (r, h.2)) := by
  simp only [eval] <;> rfl
@[simp] theorem e_call (f : Nat) (es : Exs) : eval Γ (.call f es) st = ((evals Γ es st).bind fun p => ((Γ f).runP p.1).map fun r => (r, p.2)) := by
  simp only [eval] <;> rfl
@[simp] theorem e_callS (f : Nat) (es : Exs) : eval Γ (.callS f es) st = ((evala Γ es st).bind fun p => p.2.src.bind fun s => ((Γ f).runS p.1 s).map fun r => (r.1, ⟨p.2.env, some r.2⟩)) := by
  simp only [eval] <;> rfl
@[simp] theorem e_bi (b : Bi) (es : Exs) : eval Γ (.bi b es) st = ((evalv Γ es st).bind fun p => (resAll p.2 p.1).bind fun ds => (evBi b ds).map fun r => (r, p.2)) := by
  simp only [eval] <;> rfl
@[simp] theorem e_rngL (t : Bool) (a b : Ex) : eval Γ (.rngL t a b) st = ((evalO Γ a st).bind fun p => (evalO Γ b p.2).bind fun q => match q.1 with
      | some j => if rgOk (p.1.getD 0) j then some (if t then .dat (.tuple (rgD (p.1.getD 0) j)) else .lst (rgD (p.1.getD 0) j), q.2) else none
      | none => none) := by
  simp only [eval] <;> rfl
@[simp] theorem e_index (a b : Ex) : eval Γ (.index a b) st = ((eval Γ a st).bind fun p => if isListO (res p.2 p.1) then (eval Γ b p.2).bind fun q => (res q.2 p.1).bind fun x => (res q.2 q.1).bind fun y => match x with
      | .list ds => if okD 12 x && okD 12 y then (ds.findIdx? fun z => PyData.eqv z y).map fun (k : Nat) => (.dat (.int (k : Int)), q.2) else none
      | _ => none
      else none) := by
  simp only [eval] <;> rfl
end
theorem compRun_fm {f : D → St → Option (Option D × St)} {st : St} {h : D → Option D} : ∀ {ds : List D}, (∀ d ∈ ds, f d st = some (h d, st)) → compRun f ds st = some (ds.filterMap h, st)
  | [], _ => rfl
  | d :: ds, hf => by
    simp only [compRun, hf d (by simp), Option.bind_some, compRun_fm (ds := ds) fun x hx => hf x (by simp [hx])]
    cases q : h d <;> simp [q]
theorem comp_fm {Γ : Nat → Fn} {own : List Nat} {tg : Tg} {it : Itx} {c e : Ex} {st st1 : St} {ds : List D} (h : D → Option D) (hI : evalI Γ it st = some (ds, st1)) (hb : frzAll own st1 = st1) (hh : hide own st1 = st1) (hk : back own st1 st1 = st1)
    (hf : ∀ d ∈ ds, compF Γ own tg c e d st1 = some (h d, st1)) (hl : ds.length ≤ 16777216) : eval Γ (.comp own tg it c e) st = some (.lst (ds.filterMap h), st1) := by
  rw [eval, hI]
  simp only [Option.bind_some, hb, hh]
  have h1 : compRun (compF Γ own tg c e) ds st1 = some (ds.filterMap h, st1) := compRun_fm hf
  have hz : (ds.filterMap h).length ≤ sizeLine := by
    have := List.length_filterMap_le h ds
    rw [sizeLine_eq]
    omega
  have h2 : compRun (fun d s => (bindT tg d s).bind fun s => (evalC Γ c s).bind fun b => if b.1 then (eval Γ e b.2).bind fun r => (frz r.2 r.1).map fun x => (some x.1, hide own x.2) else some (none, hide own b.2)) ds st1 = some (ds.filterMap h, st1) := h1
  rw [h2]
  simp only [Option.bind_some, hz, if_true, hk]
theorem comp_map {Γ : Nat → Fn} {own : List Nat} {tg : Tg} {it : Itx} {c e : Ex} {st st1 : St} {ds : List D} (h : D → D) (hI : evalI Γ it st = some (ds, st1)) (hb : frzAll own st1 = st1) (hh : hide own st1 = st1) (hk : back own st1 st1 = st1)
    (hf : ∀ d ∈ ds, compF Γ own tg c e d st1 = some (some (h d), st1)) (hl : ds.length ≤ 16777216) : eval Γ (.comp own tg it c e) st = some (.lst (ds.map h), st1) := by
  rw [comp_fm (fun d => some (h d)) hI hb hh hk hf hl]
  congr 2
  rw [List.filterMap_eq_map']
def iMap (f : Int → Int) : D → D
  | .int x => .int (f x)
  | _ => .none
def iFm (p : Int → Bool) (f : Int → Int) : D → Option D
  | .int x => if p x then some (.int (f x)) else none
  | _ => none
theorem fm_ints (p : Int → Bool) (f : Int → Int) : ∀ xs : List Int, (xs.map PyData.int).filterMap (iFm p f) = ((xs.filter p).map f).map .int
  | [] => rfl
  | x :: xs => by
    rw [List.map_cons, List.filterMap_cons, fm_ints p f xs]
    by_cases h : p x
    · rw [show iFm p f (.int x) = some (.int (f x)) from if_pos h, List.filter_cons_of_pos h]
      rfl
    · rw [show iFm p f (.int x) = none from if_neg h, List.filter_cons_of_neg h]
theorem comp_ints {Γ : Nat → Fn} {own : List Nat} {tg : Tg} {it : Itx} {c e : Ex} {st st1 : St} {xs : List Int} (f : Int → Int) (hI : evalI Γ it st = some (xs.map .int, st1)) (hb : frzAll own st1 = st1) (hh : hide own st1 = st1) (hk : back own st1 st1 = st1)
    (hf : ∀ x ∈ xs, compF Γ own tg c e (.int x) st1 = some (some (.int (f x)), st1)) (hl : xs.length ≤ 16777216) : eval Γ (.comp own tg it c e) st = some (.lst ((xs.map f).map .int), st1) := by
  rw [comp_map (iMap f) hI hb hh hk (fun d hd => ?_) (by simpa using hl)]
  · rw [List.map_map, List.map_map]
    rfl
  · obtain ⟨x, hm, rfl⟩ := List.mem_map.mp hd
    exact hf x hm
theorem comp_intsF {Γ : Nat → Fn} {own : List Nat} {tg : Tg} {it : Itx} {c e : Ex} {st st1 : St} {xs : List Int} (p : Int → Bool) (f : Int → Int) (hI : evalI Γ it st = some (xs.map .int, st1)) (hb : frzAll own st1 = st1) (hh : hide own st1 = st1) (hk : back own st1 st1 = st1)
    (hf : ∀ x ∈ xs, compF Γ own tg c e (.int x) st1 = some (if p x then some (.int (f x)) else none, st1)) (hl : xs.length ≤ 16777216) : eval Γ (.comp own tg it c e) st = some (.lst (((xs.filter p).map f).map .int), st1) := by
  rw [comp_fm (iFm p f) hI hb hh hk (fun d hd => ?_) (by simpa using hl)]
  · rw [fm_ints]
  · obtain ⟨x, hm, rfl⟩ := List.mem_map.mp hd
    exact hf x hm
def tI (xs : List Int) : D := .tuple (xs.map .int)
theorem atI_map {xs : List Int} {r : Int} (h0 : 0 ≤ r) (h1 : r < xs.length) : L2.atI (xs.map PyData.int) r = some (.int (xs.getD r.toNat 0)) := by
  obtain ⟨x, e1, e2⟩ := atI_nat' (xs := xs.map PyData.int) h0 (by simpa using h1)
  rw [e1]
  have h2 : r.toNat < xs.length := by omega
  rw [List.getElem?_map, List.getElem?_eq_getElem h2] at e2
  cases e2
  simp [h2]
theorem evIn_int (i : Int) (xs : List Int) : evIn (.int i) (.tuple (xs.map .int)) = some (decide (i ∈ xs)) := by
  have h1 : okD 12 (.tuple (xs.map PyData.int)) = true := by simp [okD]
  have h2 : okD 12 (.int i) = true := rfl
  simp only [evIn, h1, h2, Bool.and_self, if_true]
  congr 1
  induction xs with
  | nil => rfl
  | cons x xs ih =>
    rw [List.map_cons, List.any_cons, ih (by simp [okD])]
    simp only [PyData.eqv, List.mem_cons]
    by_cases h : x = i
    · subst h; simp
    · have h' : ¬ i = x := fun z => h z.symm
      simp [h, h']
end Pf

set_option maxRecDepth 100000
/-! K59a: readings, arrows. -/
namespace Pf
open PySem
def b_read : Sms := (.cons (.ret (.bi .tuple (.cons (.comp [2, 3, 4] (.tup [(.name 2), (.name 3), (.name 4)]) (.seq (.idx (.var 0) (.cst (.int 1)))) .nop (.op2 .sub (.idx (.var 1) (.var 2)) (.op2 .mul (.var 4) (.idx (.var 1) (.var 3))))) .nil))) .nil)
def rdg (hs : List Int) (r : Road) : Int := hs.getD r.1.toNat 0 - r.2.2 * hs.getD r.2.1.toNat 0
theorem sign_small {i : Int} (h : i = 1 ∨ i = -1) : smallI i = true := by
  rcases h with rfl | rfl <;> decide
theorem read_run {Γ : Nat → Fn} {n : Int} {rs : List Road} {hs : List Int} (hr : ∀ r ∈ rs, RoadOk hs.length r) (hl : rs.length ≤ 1000) : runP Γ 3 b_read [frD n rs, tI hs] = some (.dat (tI (rs.map (rdg hs)))) := by
  refine runP_rt (st := ⟨[.dat (frD n rs), .dat (tI hs), .un, .un, .un], none⟩) ?_
  show execs Γ b_read ⟨[.dat (frD n rs), .dat (tI hs), .un, .un, .un], none⟩ = _
  unfold b_read
  refine execs_rt ?_
  have hI : evalI Γ (.seq (.idx (.var 0) (.cst (.int 1)))) ⟨[.dat (frD n rs), .dat (tI hs), .un, .un, .un], none⟩ = some (rs.map rdD, ⟨[.dat (frD n rs), .dat (tI hs), .un, .un, .un], none⟩) := by
    simp [evalI, frD, evIdx, res, frz, items, L2.atI, L2.ixN]
  have hc := comp_map (Γ := Γ) (own := [2, 3, 4]) (tg := .tup [(.name 2), (.name 3), (.name 4)]) (c := .nop) (e := .op2 .sub (.idx (.var 1) (.var 2)) (.op2 .mul (.var 4) (.idx (.var 1) (.var 3)))) (fun d => match d with | .tuple [.int a, .int b, .int s] => .int (rdg hs (a, b, s)) | _ => .none) hI rfl rfl rfl (fun d hd => ?_) (by simp; omega)
  · have e : (rs.map rdD).map (fun d => match d with | .tuple [.int a, .int b, .int s] => PyData.int (rdg hs (a, b, s)) | _ => .none) = (rs.map (rdg hs)).map PyData.int := by
      rw [List.map_map, List.map_map]
      rfl
    rw [e] at hc
    simp [-List.map_map, exec, evalv, hc, res, resAll, evBi, ev1, bTuple, items]
    rfl
  · obtain ⟨r, hm, rfl⟩ := List.mem_map.mp hd
    obtain ⟨⟨a0, a1⟩, ⟨b0, b1⟩, hs'⟩ := hr r hm
    have e1 := atI_map (xs := hs) a0 a1
    have e2 := atI_map (xs := hs) b0 b1
    have e3 := sign_small hs'
    simp [compF, rdD, bindT, bindTs, evalC, res, evIdx, tI, e1, e2, e3, evOp2, evInt, evMul, frz, hide, unAt, rdg]
def b_arrows (rd : Nat) : Sms := (.cons (.set 2 (.call rd (.cons (.var 0) (.cons (.var 1) .nil)))) (.cons (.ret (.ite (.op2 .notin (.cst (.int 0)) (.var 2)) (.bi .tuple (.cons (.comp [3] (.name 3) (.seq (.var 2)) .nop (.ite (.op2 .gt (.var 3) (.cst (.int 0))) (.cst (.int 1)) (.neg (.cst (.int 1))))) .nil)) (.cst .none))) .nil))
def b_arrows2 (rd : Nat) : Sms := (.cons (.set 2 (.call rd (.cons (.var 0) (.cons (.var 1) .nil)))) (.cons (.ret (.ite (.op2 .isin (.cst (.int 0)) (.var 2)) (.cst .none) (.bi .tuple (.cons (.comp [3] (.name 3) (.seq (.var 2)) .nop (.ite (.op2 .gt (.var 3) (.cst (.int 0))) (.cst (.int 1)) (.neg (.cst (.int 1))))) .nil)))) .nil))
def sgn1 (x : Int) : Int := if 0 < x then 1 else -1
def arrD (xs : List Int) : D := if 0 ∈ xs then .none else tI (xs.map sgn1)
structure HasRead (Γ : Nat → Fn) (p : Nat) : Prop where
  run : ∀ (n : Int) (rs : List Road) (hs : List Int), (∀ r ∈ rs, RoadOk hs.length r) → rs.length ≤ 1000 → (Γ p).runP [frD n rs, tI hs] = some (.dat (tI (rs.map (rdg hs))))
theorem hasRead {Γ Γ' : Nat → Fn} {p : Nat} (h : Γ p = .pure (runP Γ' 3 b_read)) : HasRead Γ p := ⟨fun n rs hs h1 h2 => by rw [h]; exact read_run h1 h2⟩
theorem signs_comp {Γ : Nat → Fn} {a b : Sl} {xs : List Int} (hl : xs.length ≤ 1000) : eval Γ (.comp [3] (.name 3) (.seq (.var 2)) .nop (.ite (.op2 .gt (.var 3) (.cst (.int 0))) (.cst (.int 1)) (.neg (.cst (.int 1))))) ⟨[a, b, .dat (tI xs), .un], none⟩
    = some (.lst ((xs.map sgn1).map .int), ⟨[a, b, .dat (tI xs), .un], none⟩) := by
  have hI : evalI Γ (.seq (.var 2)) ⟨[a, b, .dat (tI xs), .un], none⟩ = some (xs.map .int, ⟨[a, b, .dat (tI xs), .un], none⟩) := by
    simp [evalI, frz, tI, items]
  rw [comp_map (fun d => match d with | .int x => .int (sgn1 x) | _ => .none) hI rfl rfl rfl (fun d hd => ?_) (by simp; omega)]
  · rw [List.map_map, List.map_map]
    rfl
  · obtain ⟨x, hm, rfl⟩ := List.mem_map.mp hd
    by_cases h : 0 < x <;> simp [compF, bindT, evalC, evOp2, evCmp, evNeg, res, asBool, frz, hide, unAt, sgn1, h]
theorem arrows_run {Γ : Nat → Fn} {rd : Nat} (hrd : HasRead Γ rd) {n : Int} {rs : List Road} {hs : List Int} (hr : ∀ r ∈ rs, RoadOk hs.length r) (hl : rs.length ≤ 1000) : runP Γ 2 (b_arrows rd) [frD n rs, tI hs] = some (.dat (arrD (rs.map (rdg hs)))) := by
  refine runP_rt (st := ⟨[.dat (frD n rs), .dat (tI hs), .dat (tI (rs.map (rdg hs))), .un], none⟩) ?_
  show execs Γ (b_arrows rd) ⟨[.dat (frD n rs), .dat (tI hs), .un, .un], none⟩ = _
  unfold b_arrows
  refine (execs_nx (st' := ⟨[.dat (frD n rs), .dat (tI hs), .dat (tI (rs.map (rdg hs))), .un], none⟩) ?_).trans (execs_rt ?_)
  · simp [exec, evals, frz, keep, hrd.run n rs hs hr hl]
  · have hi := evIn_int 0 (rs.map (rdg hs))
    have hi' : evIn (.int 0) (tI (rs.map (rdg hs))) = _ := hi
    have hcm := signs_comp (Γ := Γ) (a := .dat (frD n rs)) (b := .dat (tI hs)) (xs := rs.map (rdg hs)) (by simpa using hl)
    by_cases h : 0 ∈ rs.map (rdg hs)
    · simp only [decide_eq_true h] at hi'
      rw [show arrD (rs.map (rdg hs)) = .none from if_pos h]
      simp [-List.map_map, exec, hi', evOp2, bo, res, asBool]
    · simp only [decide_eq_false h] at hi'
      rw [show arrD (rs.map (rdg hs)) = tI ((rs.map (rdg hs)).map sgn1) from if_neg h]
      simp [-List.map_map, -List.mem_map, exec, hi', evOp2, bo, res, resAll, asBool, hcm, evalv, evBi, ev1, bTuple, items]
      rfl
theorem arrows2_run {Γ : Nat → Fn} {rd : Nat} (hrd : HasRead Γ rd) {n : Int} {rs : List Road} {hs : List Int} (hr : ∀ r ∈ rs, RoadOk hs.length r) (hl : rs.length ≤ 1000) : runP Γ 2 (b_arrows2 rd) [frD n rs, tI hs] = some (.dat (arrD (rs.map (rdg hs)))) := by
  refine runP_rt (st := ⟨[.dat (frD n rs), .dat (tI hs), .dat (tI (rs.map (rdg hs))), .un], none⟩) ?_
  show execs Γ (b_arrows2 rd) ⟨[.dat (frD n rs), .dat (tI hs), .un, .un], none⟩ = _
  unfold b_arrows2
  refine (execs_nx (st' := ⟨[.dat (frD n rs), .dat (tI hs), .dat (tI (rs.map (rdg hs))), .un], none⟩) ?_).trans (execs_rt ?_)
  · simp [exec, evals, frz, keep, hrd.run n rs hs hr hl]
  · have hi := evIn_int 0 (rs.map (rdg hs))
    have hi' : evIn (.int 0) (tI (rs.map (rdg hs))) = _ := hi
    have hcm := signs_comp (Γ := Γ) (a := .dat (frD n rs)) (b := .dat (tI hs)) (xs := rs.map (rdg hs)) (by simpa using hl)
    by_cases h : 0 ∈ rs.map (rdg hs)
    · simp only [decide_eq_true h] at hi'
      rw [show arrD (rs.map (rdg hs)) = .none from if_pos h]
      simp [-List.map_map, exec, hi', evOp2, bo, res, asBool]
    · simp only [decide_eq_false h] at hi'
      rw [show arrD (rs.map (rdg hs)) = tI ((rs.map (rdg hs)).map sgn1) from if_neg h]
      simp [-List.map_map, -List.mem_map, exec, hi', evOp2, bo, res, resAll, asBool, hcm, evalv, evBi, ev1, bTuple, items]
      rfl
end Pf

set_option maxRecDepth 100000
/-! K59b: sorting ints; standing rows; is it a signed row. -/
namespace Pf
open PySem
theorem sortD_ints (xs : List Int) : ∃ l : List Int, sortD (xs.map .int) = l.map .int ∧ l.Perm xs ∧ l.Pairwise (· ≤ ·) := by
  refine ⟨xs.mergeSort (fun a b => decide (a ≤ b)), ?_, List.mergeSort_perm _ _, ?_⟩
  · have h := W.dataLe_int (β := Int) id
    unfold sortD
    have := List.map_mergeSort (r := fun a b : Int => decide (a ≤ b)) (s := W.dataLe false (id : D → D)) (f := PyData.int) (l := xs) (fun a _ b _ => by
      have := congrFun (congrFun h a) b
      exact this.symm)
    exact this.symm
  · have := List.pairwise_mergeSort (le := fun a b : Int => decide (a ≤ b)) (fun a b c h1 h2 => by simp at *; omega) (fun a b => by simp; omega) xs
    exact this.imp fun h => by simpa using h
theorem sortOk_ints (xs : List Int) : sortOk (xs.map .int) = true := by
  unfold sortOk
  simp [okD, W.alike, notTup]
theorem bSorted_ints (xs : List Int) : ∃ l : List Int, bSorted (.list (xs.map .int)) = some (.lst (l.map .int)) ∧ l.Perm xs ∧ l.Pairwise (· ≤ ·) := by
  obtain ⟨l, h1, h2, h3⟩ := sortD_ints xs
  exact ⟨l, by simp [bSorted, listOf, sortOk_ints, h1], h2, h3⟩
def absI (x : Int) : Int := if x < 0 then -x else x
def rank (xs : List Int) (v : Int) : Nat := xs.countP fun y => decide (y < v)
theorem findIdx_rank : ∀ (l : List Int) (v : Int), l.Pairwise (· ≤ ·) → v ∈ l → (l.map PyData.int).findIdx? (fun z => PyData.eqv z (.int v)) = some (rank l v)
  | [], v, _, h => by simp at h
  | x :: l, v, hs, h => by
    rw [List.map_cons, List.findIdx?_cons]
    have hx : PyData.eqv (.int x) (.int v) = decide (x = v) := by simp [PyData.eqv]; rfl
    rw [hx]
    by_cases e : x = v
    · subst e
      have : rank (x :: l) x = 0 := by
        unfold rank
        rw [List.countP_eq_zero]
        intro y hy
        rcases List.mem_cons.mp hy with rfl | hy
        · simp
        · have := (List.pairwise_cons.mp hs).1 y hy
          simp; omega
      simp [this]
    · have hm : v ∈ l := (List.mem_cons.mp h).resolve_left fun q => e q.symm
      have hlt : x < v := by
        have := (List.pairwise_cons.mp hs).1 v hm
        omega
      rw [findIdx_rank l v (List.pairwise_cons.mp hs).2 hm]
      simp [e, rank, List.countP_cons, hlt]
theorem rank_perm {l xs : List Int} (h : l.Perm xs) (v : Int) : rank l v = rank xs v := h.countP_eq _
def b_stand : Sms := (.cons (.set 1 (.bi .sorted (.cons (.comp [2] (.name 2) (.seq (.var 0)) .nop (.bi .abs (.cons (.var 2) .nil))) .nil))) (.cons (.ret (.bi .tuple (.cons (.comp [2] (.name 2) (.seq (.var 0)) .nop (.op2 .mul (.op2 .add (.index (.var 1) (.bi .abs (.cons (.var 2) .nil))) (.cst (.int 1))) (.ite (.op2 .gt (.var 2) (.cst (.int 0))) (.cst (.int 1)) (.neg (.cst (.int 1)))))) .nil))) .nil))
def standR (hs : List Int) : List Int := hs.map fun x => ((rank (hs.map absI) (absI x) : Int) + 1) * sgn1 x
theorem abs_comp {Γ : Nat → Fn} {a b : Sl} {x : Nat} {xs : List Int} {env : List Sl} {s : Option Src} (hI : evalI Γ (.seq (.var x)) ⟨env, s⟩ = some (xs.map .int, ⟨env, s⟩)) {i : Nat} (hlt : i < env.length) (hi : env.set i .un = env) (hl : xs.length ≤ 16777216) :
    eval Γ (.comp [i] (.name i) (.seq (.var x)) .nop (.bi .abs (.cons (.var i) .nil))) ⟨env, s⟩ = some (.lst ((xs.map absI).map .int), ⟨env, s⟩) := by
  have hu : env[i]? = some .un := by
    have := congrArg (·[i]?) hi
    simp only [List.getElem?_set_self hlt] at this
    exact this.symm
  have hg : (⟨env, s⟩ : St).get i = .un := by simp [hu]
  have hf : frzAll [i] (⟨env, s⟩ : St) = ⟨env, s⟩ := by simp [frzAll, frzAt, hu, frzS, hi]
  have hh : hide [i] (⟨env, s⟩ : St) = ⟨env, s⟩ := by simp [hide, unAt, hi]
  have hb : back [i] (⟨env, s⟩ : St) ⟨env, s⟩ = ⟨env, s⟩ := by simp [back, hu, hi]
  rw [comp_map (fun d => match d with | .int x => .int (absI x) | _ => .none) hI hf hh hb (fun d hd => ?_) (by simp; omega)]
  · rw [List.map_map, List.map_map]
    rfl
  · obtain ⟨y, hm, rfl⟩ := List.mem_map.mp hd
    have h1 : (env.set i (.dat (.int y)))[i]? = some (.dat (.int y)) := List.getElem?_set_self hlt
    simp [compF, bindT, evalC, evalv, resAll, res, evBi, ev1, bAbs, frz, hide, unAt, absI, h1, hi]
theorem okD_ints (xs : List Int) : okD 12 (.list (xs.map PyData.int)) = true := by simp [okD]
theorem stand_run {Γ : Nat → Fn} {hs : List Int} (hl : hs.length ≤ 1000) : runP Γ 2 b_stand [tI hs] = some (.dat (tI (standR hs))) := by
  obtain ⟨l, h1, h2, h3⟩ := bSorted_ints (hs.map absI)
  refine runP_rt (st := ⟨[.dat (tI hs), .lst (l.map .int), .un], none⟩) ?_
  show execs Γ b_stand ⟨[.dat (tI hs), .un, .un], none⟩ = _
  unfold b_stand
  have hc1 := abs_comp (Γ := Γ) (a := .un) (b := .un) (x := 0) (xs := hs) (env := [.dat (tI hs), .un, .un]) (s := none) (i := 2) (by simp [evalI, frz, tI, items]) (by simp) rfl (by omega)
  refine (execs_nx (st' := ⟨[.dat (tI hs), .lst (l.map .int), .un], none⟩) ?_).trans (execs_rt ?_)
  · simp [-List.map_map, exec, evalv, hc1, resAll, res, evBi, ev1, h1, keep]
  · have hI : evalI Γ (.seq (.var 0)) ⟨[.dat (tI hs), .lst (l.map .int), .un], none⟩ = some (hs.map .int, ⟨[.dat (tI hs), .lst (l.map .int), .un], none⟩) := by simp [evalI, frz, tI, items]
    have hc2 := comp_ints (Γ := Γ) (own := [2]) (tg := .name 2) (c := .nop) (e := .op2 .mul (.op2 .add (.index (.var 1) (.bi .abs (.cons (.var 2) .nil))) (.cst (.int 1))) (.ite (.op2 .gt (.var 2) (.cst (.int 0))) (.cst (.int 1)) (.neg (.cst (.int 1))))) (fun x => ((rank (hs.map absI) (absI x) : Int) + 1) * sgn1 x) hI rfl rfl rfl (fun y hm => ?_) (by omega)
    · simp [-List.map_map, exec, evalv, hc2, res, resAll, evBi, ev1, bTuple, items]
      rfl
    · have hy : absI y ∈ l := h2.mem_iff.mpr (List.mem_map.mpr ⟨y, hm, rfl⟩)
      have hf := findIdx_rank l (absI y) h3 hy
      rw [rank_perm h2] at hf
      have hok := okD_ints l
      have ha : (if y < 0 then -y else y) = absI y := rfl
      have s1 : smallI 1 = true := by decide
      have s2 : smallI (-1) = true := by decide
      have hok2 : okD 12 (.int (absI y)) = true := rfl
      by_cases h : 0 < y <;> simp [-List.findIdx?_map, compF, bindT, evalC, evalv, resAll, res, evBi, ev1, bAbs, ha, hok, hok2, hf, evOp2, evAdd, evMul, evCmp, evNeg, asBool, s1, s2, h, frz, hide, unAt, sgn1]
end Pf

set_option maxRecDepth 100000
/-! K59c: is it a signed row, said twice. -/
namespace Pf
open PySem
def intB : D → Bool
  | .int _ => true
  | _ => false
def b_tail : Sms := (.cons (.ret (.op2 .eq (.bi .sorted (.cons (.comp [2] (.name 2) (.seq (.var 1)) .nop (.bi .abs (.cons (.var 2) .nil))) .nil)) (.rngL false (.cst (.int 1)) (.op2 .add (.var 0) (.cst (.int 1)))))) .nil)
def t_row1 : Ex := (.or2 (.not (.bi .isTup (.cons (.var 1) .nil))) (.not (.bi .all (.cons (.comp [2] (.name 2) (.seq (.var 1)) .nop (.and2 (.bi .isInt (.cons (.var 2) .nil)) (.not (.bi .isBool (.cons (.var 2) .nil))))) .nil))))
def t_row2 : Ex := (.or2 (.not (.bi .isTup (.cons (.var 1) .nil))) (.op2 .ne (.comp [2] (.name 2) (.seq (.var 1)) (.or2 (.not (.bi .isInt (.cons (.var 2) .nil))) (.bi .isBool (.cons (.var 2) .nil))) (.var 2)) (.lst .nil)))
def b_row (t : Ex) : Sms := .cons (.ite t (.cons (.ret (.cst (.bool false))) .nil) .nil) b_tail
theorem eqv_intlists : ∀ xs ys : List Int, PyData.eqvAll (xs.map .int) (ys.map .int) = decide (xs = ys)
  | [], [] => rfl
  | [], _ :: _ => rfl
  | _ :: _, [] => rfl
  | x :: xs, y :: ys => by
    simp only [List.map_cons, PyData.eqvAll, eqv_intlists xs ys, PyData.eqv]
    by_cases h : x = y
    · subst h; simp
    · simp [h]
theorem evEq_ints (xs ys : List Int) : evEq (.list (xs.map .int)) (.list (ys.map .int)) = some (decide (xs = ys)) := by
  simp only [evEq, okD_ints, Bool.and_self, if_true, PyData.eqv, eqv_intlists]
def rgI (a b : Int) : List Int := (List.range (b - a).toNat).map fun (k : Nat) => a + (k : Int)
theorem rgD_ints (a b : Int) : rgD a b = (rgI a b).map .int := by
  unfold rgD rgI
  rw [List.map_map]
  rfl
/-- what both answer for a row of ints -/
structure RowAns (n : Int) (xs : List Int) (b : Bool) : Prop where
  ex : ∃ l : List Int, bSorted (.list ((xs.map absI).map .int)) = some (.lst (l.map .int)) ∧ b = decide (l = rgI 1 (n + 1))
theorem intL_inj : ∀ {xs ys : List Int}, xs.map PyData.int = ys.map .int → xs = ys
  | [], [], _ => rfl
  | [], _ :: _, h => by cases h
  | _ :: _, [], h => by cases h
  | x :: xs, y :: ys, h => by
    simp only [List.map_cons, List.cons.injEq, PyData.int.injEq] at h
    rw [h.1, intL_inj h.2]
theorem RowAns.uniq {n : Int} {xs : List Int} {a b : Bool} (h : RowAns n xs a) (k : RowAns n xs b) : a = b := by
  obtain ⟨l, h1, rfl⟩ := h.ex
  obtain ⟨m, k1, rfl⟩ := k.ex
  rw [h1] at k1
  simp only [Option.some.injEq, Rv.lst.injEq] at k1
  rw [intL_inj k1]
theorem tail_run {Γ : Nat → Fn} {n : Int} {xs : List Int} (hn : 0 ≤ n ∧ n ≤ 1000) (hl : xs.length ≤ 1000) : ∃ b, RowAns n xs b ∧ execs Γ b_tail ⟨[.dat (.int n), .dat (tI xs), .un], none⟩ = some (.rt (.dat (.bool b)) ⟨[.dat (.int n), .dat (tI xs), .un], none⟩) := by
  obtain ⟨l, h1, h2, h3⟩ := bSorted_ints (xs.map absI)
  refine ⟨_, ⟨l, h1, rfl⟩, ?_⟩
  have hc := abs_comp (Γ := Γ) (a := .un) (b := .un) (x := 1) (xs := xs) (env := [.dat (.int n), .dat (tI xs), .un]) (s := none) (i := 2) (by simp [evalI, frz, tI, items]) (by simp) rfl (by omega)
  have hrg : rgOk 1 (n + 1) = true := by
    unfold rgOk
    simp only [Bool.and_eq_true, decide_eq_true_eq]
    omega
  have he := evEq_ints l (rgI 1 (n + 1))
  unfold b_tail
  refine execs_rt ?_
  simp [-List.map_map, exec, evalv, hc, resAll, res, evBi, ev1, h1, evalO, evOp2, evAdd, hrg, rgD_ints, he, bo]
/-- the first test -/
structure Tests (Γ : Nat → Fn) (t : Ex) : Prop where
  no : ∀ (n : Int) (v : D), (∀ ds, v ≠ .tuple ds) → (tyName v).isSome = true → asBool (eval Γ t ⟨[.dat (.int n), .dat v, .un], none⟩) = some (true, ⟨[.dat (.int n), .dat v, .un], none⟩)
  tup : ∀ (n : Int) (ds : List D), (∀ d ∈ ds, okD 11 d = true) → ds.length ≤ 1000 → asBool (eval Γ t ⟨[.dat (.int n), .dat (.tuple ds), .un], none⟩) = some (!ds.all intB, ⟨[.dat (.int n), .dat (.tuple ds), .un], none⟩)
theorem test1 (Γ : Nat → Fn) : Tests Γ t_row1 where
  no := fun n v hv hn => by
    obtain ⟨m, hm⟩ := Option.isSome_iff_exists.mp hn
    have hne : m ≠ "tuple" := by
      cases v <;> simp [tyName] at hm <;> first | (subst hm; decide) | exact absurd rfl (hv _)
    unfold t_row1
    simp [evalv, resAll, res, evBi, ev1, bIs, hm, hne, asBool]
  tup := fun n ds hd hl => by
    have hI : evalI Γ (.seq (.var 1)) ⟨[.dat (.int n), .dat (.tuple ds), .un], none⟩ = some (ds, ⟨[.dat (.int n), .dat (.tuple ds), .un], none⟩) := by simp [evalI, frz, items]
    have hc := comp_map (Γ := Γ) (own := [2]) (tg := .name 2) (c := .nop) (e := .and2 (.bi .isInt (.cons (.var 2) .nil)) (.not (.bi .isBool (.cons (.var 2) .nil)))) (fun d => .bool (intB d)) hI rfl rfl rfl (fun d hd' => ?_) (by omega)
    · have hb : boolsOf (ds.map fun d => PyData.bool (intB d)) = some (ds.map intB) := by
        clear hc hI hd hl
        induction ds with
        | nil => rfl
        | cons d ds ih => simp [boolsOf, ih]
      unfold t_row1
      simp [evalv, resAll, res, evBi, ev1, bIs, tyName, asBool, hc, bAll, listOf, hb, List.all_map]
    · have := hd d hd'
      cases d <;> simp [compF, bindT, evalC, evalv, resAll, res, evBi, ev1, bIs, tyName, asBool, frz, hide, unAt, intB]
      simp [okD] at this
theorem test2 (Γ : Nat → Fn) : Tests Γ t_row2 where
  no := fun n v hv hn => by
    obtain ⟨m, hm⟩ := Option.isSome_iff_exists.mp hn
    have hne : m ≠ "tuple" := by
      cases v <;> simp [tyName] at hm <;> first | (subst hm; decide) | exact absurd rfl (hv _)
    unfold t_row2
    simp [evalv, resAll, res, evBi, ev1, bIs, hm, hne, asBool]
  tup := fun n ds hd hl => by
    have hI : evalI Γ (.seq (.var 1)) ⟨[.dat (.int n), .dat (.tuple ds), .un], none⟩ = some (ds, ⟨[.dat (.int n), .dat (.tuple ds), .un], none⟩) := by simp [evalI, frz, items]
    have hc := comp_fm (Γ := Γ) (own := [2]) (tg := .name 2) (c := .or2 (.not (.bi .isInt (.cons (.var 2) .nil))) (.bi .isBool (.cons (.var 2) .nil))) (e := .var 2) (fun d => if intB d then none else some d) hI rfl rfl rfl (fun d hd' => ?_) (by omega)
    · have hok : okD 12 (.list (ds.filterMap fun d => if intB d then none else some d)) = true := by
        simp only [okD, List.all_eq_true, List.mem_filterMap]
        rintro d ⟨d', h1, h2⟩
        split at h2
        · cases h2
        · cases h2
          exact hd _ h1
      have he : PyData.eqvAll (ds.filterMap fun d => if intB d then none else some d) [] = ds.all intB := by
        clear hc hI hd hl hok
        induction ds with
        | nil => rfl
        | cons d ds ih =>
          by_cases h : intB d
          · simp [h, ih]
          · simp [h, PyData.eqvAll]
      have z : (0 : Nat) ≤ sizeLine := Nat.zero_le _
      unfold t_row2
      have hok0 : okD 12 (.list []) = true := rfl
      simp [evalv, evals, resAll, res, evBi, ev1, bIs, tyName, asBool, hc, evOp2, evEq, hok, hok0, bo, PyData.eqv, he]
    · have := hd d hd'
      cases d <;> simp [compF, bindT, evalC, evalv, resAll, res, evBi, ev1, bIs, tyName, asBool, frz, hide, unAt, intB]
      simp [okD] at this
structure RowIs (n : Int) (v : D) (b : Bool) : Prop where
  no : (∀ xs, v ≠ tI xs) → b = false
  yes : ∀ xs, v = tI xs → RowAns n xs b
theorem RowIs.uniq {n : Int} {v : D} {a b : Bool} (h : RowIs n v a) (k : RowIs n v b) : a = b := by
  by_cases q : ∃ xs, v = tI xs
  · obtain ⟨xs, e⟩ := q
    exact (h.yes xs e).uniq (k.yes xs e)
  · have q' : ∀ xs, v ≠ tI xs := fun xs e => q ⟨xs, e⟩
    rw [h.no q', k.no q']
theorem ints_of_all : ∀ {ds : List D}, ds.all intB = true → ∃ xs : List Int, ds = xs.map .int
  | [], _ => ⟨[], rfl⟩
  | d :: ds, h => by
    simp only [List.all_cons, Bool.and_eq_true] at h
    obtain ⟨xs, e⟩ := ints_of_all h.2
    cases d <;> simp only [intB, Bool.false_eq_true, false_and] at h
    rename_i i
    exact ⟨i :: xs, by rw [e]; rfl⟩
/-- values whose row answer is known -/
def RowV (v : D) : Prop := (tyName v).isSome = true ∧ ∀ ds, v = .tuple ds → (∀ d ∈ ds, okD 11 d = true) ∧ ds.length ≤ 1000
theorem row_run {Γ : Nat → Fn} {t : Ex} (T : Tests Γ t) {n : Int} {v : D} (hn : 0 ≤ n ∧ n ≤ 1000) (hv : RowV v) : ∃ b, RowIs n v b ∧ runP Γ 1 (b_row t) [.int n, v] = some (.dat (.bool b)) := by
  have hs : [PyData.int n, v].map argSl ++ List.replicate 1 Sl.un = [.dat (.int n), .dat v, .un] := by
    have : argSl v = .dat v := by
      have := hv.1
      cases v <;> first | rfl | cases this
    simp [this]
    rfl
  by_cases ht : ∃ ds, v = .tuple ds
  · obtain ⟨ds, rfl⟩ := ht
    obtain ⟨hd, hl⟩ := hv.2 ds rfl
    have ha := T.tup n ds hd hl
    cases hi : ds.all intB with
    | true =>
      obtain ⟨xs, rfl⟩ := ints_of_all hi
      obtain ⟨b, h1, h2⟩ := tail_run (Γ := Γ) (n := n) (xs := xs) hn (by simpa using hl)
      refine ⟨b, ⟨fun q => absurd rfl (q xs), fun ys e => ?_⟩, runP_rt (st := ⟨[.dat (.int n), .dat (tI xs), .un], none⟩) ?_⟩
      · have : xs = ys := intL_inj (by simpa [tI] using e)
        rw [← this]
        exact h1
      · rw [hs]
        unfold b_row
        rw [hi] at ha
        refine (execs_nx (st' := ⟨[.dat (.int n), .dat (tI xs), .un], none⟩) ?_).trans h2
        simp only [exec, ha, Option.bind_some, Bool.not_true, Bool.false_eq_true, if_false, execs]
        rfl
    | false =>
      refine ⟨false, ⟨fun _ => rfl, fun ys e => ?_⟩, runP_rt (st := ⟨[.dat (.int n), .dat (.tuple ds), .un], none⟩) ?_⟩
      · have : ds = ys.map .int := by simpa [tI] using e
        rw [this] at hi
        simp [intB] at hi
      · rw [hs]
        unfold b_row
        rw [hi] at ha
        refine execs_rt ?_
        simp only [exec, ha, Option.bind_some, Bool.not_false, if_true, execs, e_cst]
  · have ha := T.no n v (fun ds e => ht ⟨ds, e⟩) hv.1
    refine ⟨false, ⟨fun _ => rfl, fun ys e => absurd ⟨_, e⟩ ht⟩, runP_rt (st := ⟨[.dat (.int n), .dat v, .un], none⟩) ?_⟩
    rw [hs]
    unfold b_row
    refine execs_rt ?_
    simp only [exec, ha, Option.bind_some, if_true, execs, e_cst]
end Pf

set_option maxRecDepth 100000
/-! K59d: all signed rows, made in two ways. -/
namespace Pf
open PySem
/-- a loop that folds -/
theorem forRun_fold {α : Type} {tmp : List Nat} {f : D → St → Option Out} (S : α → St) (g : α → D → α) (I : α → Nat → Prop) (hS : ∀ a, clear tmp (S a) = S a) : ∀ (ds : List D) (a : α) (n : Nat), I a n → (∀ a n d, d ∈ ds → I a n → ∃ st', f d (S a) = some (.nx st') ∧ clear tmp st' = S (g a d) ∧ I (g a d) (n + 1)) →
    forRun tmp f ds (S a) = some (.nx (S (ds.foldl g a))) ∧ I (ds.foldl g a) (n + ds.length)
  | [], a, n, h, _ => ⟨by simp only [forRun, hS]; rfl, h⟩
  | d :: ds, a, n, h, step => by
    obtain ⟨st', e1, e2, h1⟩ := step a n d (by simp) h
    obtain ⟨q1, q2⟩ := forRun_fold S g I hS ds (g a d) (n + 1) h1 fun a n d hd => step a n d (by simp [hd])
    refine ⟨?_, by rw [List.length_cons, show n + (ds.length + 1) = n + 1 + ds.length by omega]; exact q2⟩
    rw [forRun_nx (by rw [hS]; exact e1)]
    exact (forRun_congr (st := st') (st' := S (g a d)) (by rw [e2, hS])).trans q1
def iMapD (f : Int → D) : D → D
  | .int x => f x
  | _ => .none
theorem comp_intsD {Γ : Nat → Fn} {own : List Nat} {tg : Tg} {it : Itx} {c e : Ex} {st st1 : St} {xs : List Int} (f : Int → D) (hI : evalI Γ it st = some (xs.map .int, st1)) (hb : frzAll own st1 = st1) (hh : hide own st1 = st1) (hk : back own st1 st1 = st1)
    (hf : ∀ x ∈ xs, compF Γ own tg c e (.int x) st1 = some (some (f x), st1)) (hl : xs.length ≤ 16777216) : eval Γ (.comp own tg it c e) st = some (.lst (xs.map f), st1) := by
  rw [comp_map (iMapD f) hI hb hh hk (fun d hd => ?_) (by simpa using hl)]
  · rw [List.map_map]
    rfl
  · obtain ⟨x, hm, rfl⟩ := List.mem_map.mp hd
    exact hf x hm
def restI (n : Int) (row : List Int) : List Int := (rgI 1 (n + 1)).filter fun x => !decide (x ∈ row.map absI)
def stepRow (n : Int) (row : List Int) : List (List Int) := (((restI n row).reverse.map fun x => -x) ++ restI n row).map fun x => row ++ [x]
def b_srow : Sms := (.cons (.set 5 (.comp [7] (.name 7) (.seq (.var 4)) .nop (.bi .abs (.cons (.var 7) .nil)))) (.cons (.set 6 (.comp [8] (.name 8) (.rng2 (.cst (.int 1)) (.op2 .add (.var 0) (.cst (.int 1)))) (.op2 .notin (.var 8) (.var 5)) (.var 8))) (.cons (.ext 3 (.comp [9] (.name 9) (.seq (.op2 .add (.comp [8] (.name 8) (.seq (.slc .rev (.var 6) .nop .nop)) .nop (.neg (.var 8))) (.var 6))) .nop (.tup (.star (.var 4) (.cons (.var 9) .nil))))) .nil)))
theorem evIn_intL (i : Int) (xs : List Int) : evIn (.int i) (.list (xs.map .int)) = some (decide (i ∈ xs)) := by
  have := evIn_int i xs
  have h1 : okD 12 (.list (xs.map PyData.int)) = true := by simp [okD]
  have h2 : okD 12 (.int i) = true := rfl
  have h3 : okD 12 (.tuple (xs.map PyData.int)) = true := by simp [okD]
  simp only [evIn, h1, h2, h3, Bool.and_self, if_true] at this ⊢
  exact this
theorem rgI_len (a b : Int) : (rgI a b).length = (b - a).toNat := by
  unfold rgI
  simp
theorem srow_run {Γ : Nat → Fn} {n : Int} (hn : 0 ≤ n ∧ n ≤ 1000) {row : List Int} (hr : row.length ≤ 1000) {found : Sl} {lap : Sl} {late : List D} (hl : late.length ≤ 1000000) :
    ∃ x y, execs Γ b_srow ⟨[.dat (.int n), found, lap, .lst late, .dat (tI row), .un, .un, .un, .un, .un], none⟩ = some (.nx ⟨[.dat (.int n), found, lap, .lst (late ++ (stepRow n row).map tI), .dat (tI row), x, y, .un, .un, .un], none⟩) := by
  have hrl : (restI n row).length ≤ 1000 := by
    unfold restI
    have h1 := List.length_filter_le (fun x => !decide (x ∈ row.map absI)) (rgI 1 (n + 1))
    rw [rgI_len] at h1
    omega
  refine ⟨.lst ((row.map absI).map .int), .lst ((restI n row).map .int), ?_⟩
  unfold b_srow
  have hc1 := abs_comp (Γ := Γ) (a := .un) (b := .un) (x := 4) (xs := row) (env := [.dat (.int n), found, lap, .lst late, .dat (tI row), .un, .un, .un, .un, .un]) (s := none) (i := 7) (by simp [evalI, frz, tI, items]) (by simp) rfl (by omega)
  refine (execs_nx (st' := ⟨[.dat (.int n), found, lap, .lst late, .dat (tI row), .lst ((row.map absI).map .int), .un, .un, .un, .un], none⟩) ?_).trans ?_
  · simp [-List.map_map, exec, hc1, keep]
  have hI2 : evalI Γ (.rng2 (.cst (.int 1)) (.op2 .add (.var 0) (.cst (.int 1)))) ⟨[.dat (.int n), found, lap, .lst late, .dat (tI row), .lst ((row.map absI).map .int), .un, .un, .un, .un], none⟩ = some ((rgI 1 (n + 1)).map .int, ⟨[.dat (.int n), found, lap, .lst late, .dat (tI row), .lst ((row.map absI).map .int), .un, .un, .un, .un], none⟩) := by
    have q1 : (n + 1).natAbs < 1152921504606846976 := by omega
    have q2 : (1 : Int).natAbs < 1152921504606846976 := by omega
    have q3 : n + 1 - 1 ≤ 16777216 := by omega
    simp [-List.map_map, evalI, res, evOp2, evAdd, q1, q2, q3]
    refine ⟨by omega, ?_⟩
    unfold rgI
    rw [List.map_map]
    have : n + 1 - 1 = n := by omega
    simp [this]
  have hc2 := comp_intsF (Γ := Γ) (own := [8]) (tg := .name 8) (c := .op2 .notin (.var 8) (.var 5)) (e := .var 8) (fun x => !decide (x ∈ row.map absI)) id hI2 rfl rfl rfl (fun x hx => by
    have h := evIn_intL x (row.map absI)
    cases hd : decide (x ∈ row.map absI) <;> rw [hd] at h <;> simp [-List.map_map, compF, bindT, evalC, res, evOp2, h, bo, asBool, frz, hide, unAt]) (by rw [rgI_len]; omega)
  rw [List.map_id] at hc2
  refine (execs_nx (st' := ⟨[.dat (.int n), found, lap, .lst late, .dat (tI row), .lst ((row.map absI).map .int), .lst ((restI n row).map .int), .un, .un, .un], none⟩) ?_).trans ?_
  · simp [-List.map_map, exec, hc2, keep, restI]
  unfold stepRow
  generalize restI n row = rest at hrl
  have hI3 : evalI Γ (.seq (.slc .rev (.var 6) .nop .nop)) ⟨[.dat (.int n), found, lap, .lst late, .dat (tI row), .lst ((row.map absI).map .int), .lst (rest.map .int), .un, .un, .un], none⟩ = some (rest.reverse.map .int, ⟨[.dat (.int n), found, lap, .lst late, .dat (tI row), .lst ((row.map absI).map .int), .lst (rest.map .int), .un, .un, .un], none⟩) := by
    simp [-List.map_map, evalI, evalO, res, evSlc, frz, items]
  have hc3 := comp_ints (Γ := Γ) (own := [8]) (tg := .name 8) (c := .nop) (e := .neg (.var 8)) (fun x => -x) hI3 rfl rfl rfl (fun x hx => by simp [-List.map_map, compF, bindT, evalC, res, evNeg, frz, hide, unAt]) (by simp; omega)
  have hsz : rest.length + rest.length ≤ sizeLine := by rw [sizeLine_eq]; omega
  have hI4 : evalI Γ (.seq (.op2 .add (.comp [8] (.name 8) (.seq (.slc .rev (.var 6) .nop .nop)) .nop (.neg (.var 8))) (.var 6))) ⟨[.dat (.int n), found, lap, .lst late, .dat (tI row), .lst ((row.map absI).map .int), .lst (rest.map .int), .un, .un, .un], none⟩ = some (((rest.reverse.map fun x => -x) ++ rest).map .int, ⟨[.dat (.int n), found, lap, .lst late, .dat (tI row), .lst ((row.map absI).map .int), .lst (rest.map .int), .un, .un, .un], none⟩) := by
    simp only [evalI, e_op2, hc3, Option.bind_some]
    simp [-List.map_map, res, evOp2, evAdd, hsz, frz, items]
  have hrz : row.length + 1 ≤ sizeLine := by rw [sizeLine_eq]; omega
  have hc4 := comp_intsD (Γ := Γ) (own := [9]) (tg := .name 9) (c := .nop) (e := .tup (.star (.var 4) (.cons (.var 9) .nil))) (fun x => tI (row ++ [x])) hI4 rfl rfl rfl (fun x hx => by
    simp [-List.map_map, compF, bindT, evalC, evals, frz, tI, items, hide, unAt, hrz]) (by simp; omega)
  have hall : late.length + ((((rest.reverse.map fun x => -x) ++ rest).map fun x => row ++ [x]).map tI).length ≤ sizeLine := by
    simp only [List.length_map, List.length_append, List.length_reverse]
    rw [sizeLine_eq]
    omega
  have e5 : (((rest.reverse.map fun x => -x) ++ rest).map fun x => tI (row ++ [x])) = (((rest.reverse.map fun x => -x) ++ rest).map fun x => row ++ [x]).map tI := by
    rw [List.map_map]
    rfl
  rw [e5] at hc4
  refine (execs_nx (st' := ⟨[.dat (.int n), found, lap, .lst (late ++ (((rest.reverse.map fun x => -x) ++ rest).map fun x => row ++ [x]).map tI), .dat (tI row), .lst ((row.map absI).map .int), .lst (rest.map .int), .un, .un, .un], none⟩) ?_).trans ?_
  · simp only [exec, hc4]
    simp [-List.map_map, -List.map_append, isLst, frz, listOf]
    simpa using hall
  · simp only [execs]
def b_srows : Sms := (.cons (.set 1 (.lst (.cons (.tup .nil) .nil))) (.cons (.for [2, 3, 4, 5, 6] (.name 2) (.rng1 (.var 0)) (.cons (.set 3 (.lst .nil)) (.cons (.for [4, 5, 6] (.name 4) (.seq (.var 1)) b_srow) (.cons (.set 1 (.var 3)) .nil)))) (.cons (.ret (.var 1)) .nil)))
def stepAll (f : List Int → List (List Int)) (found : List (List Int)) : List (List Int) := found.flatMap f
def rowsOf (f : List Int → List (List Int)) : Nat → List (List Int)
  | 0 => [[]]
  | k + 1 => stepAll f (rowsOf f k)
def SlL (F : List D) (x : Sl) : Prop := x = .lst F ∨ x = .dat (.list F)
theorem inner1 {Γ : Nat → Fn} {n : Int} (hn : 0 ≤ n ∧ n ≤ 1000) (x1 lap : Sl) : ∀ (F : List (List Int)) (late : List D), (∀ r ∈ F, r.length ≤ 1000) → late.length + (F.flatMap (stepRow n)).length ≤ 1000000 →
    forRun [4, 5, 6] (fun d s => (bindT (.name 4) d s).bind fun s => execs Γ b_srow s) (F.map tI) ⟨[.dat (.int n), x1, lap, .lst late, .un, .un, .un, .un, .un, .un], none⟩ = some (.nx ⟨[.dat (.int n), x1, lap, .lst (late ++ (F.flatMap (stepRow n)).map tI), .un, .un, .un, .un, .un, .un], none⟩)
  | [], late, _, _ => by
    simp [forRun, clear, unAt]
  | r :: F, late, hr, hb => by
    simp only [List.flatMap_cons, List.length_append] at hb
    obtain ⟨x, y, e⟩ := srow_run (Γ := Γ) hn (hr r (by simp)) (found := x1) (lap := lap) (late := late) (by omega)
    have ih := inner1 (Γ := Γ) hn x1 lap F (late ++ (stepRow n r).map tI) (fun q hq => hr q (by simp [hq])) (by simp only [List.length_append, List.length_map]; omega)
    rw [List.map_cons, forRun_nx (st1 := ⟨[.dat (.int n), x1, lap, .lst (late ++ (stepRow n r).map tI), .dat (tI r), x, y, .un, .un, .un], none⟩) e]
    refine (forRun_congr (st := ⟨[.dat (.int n), x1, lap, .lst (late ++ (stepRow n r).map tI), .dat (tI r), x, y, .un, .un, .un], none⟩) (st' := ⟨[.dat (.int n), x1, lap, .lst (late ++ (stepRow n r).map tI), .un, .un, .un, .un, .un, .un], none⟩) rfl).trans (ih.trans ?_)
    simp [List.flatMap_cons, List.append_assoc]
theorem outer1 {Γ : Nat → Fn} {n : Int} (hn : 0 ≤ n ∧ n ≤ 1000) (K : Nat) (hb : ∀ k, k ≤ K → (rowsOf (stepRow n) k).length ≤ 1000000 ∧ ∀ r ∈ rowsOf (stepRow n) k, r.length ≤ 1000) : ∀ (ds : List D) (k : Nat) (x1 : Sl), k + ds.length = K → SlL ((rowsOf (stepRow n) k).map tI) x1 →
    ∃ x2, SlL ((rowsOf (stepRow n) K).map tI) x2 ∧ forRun [2, 3, 4, 5, 6] (fun d s => (bindT (.name 2) d s).bind fun s => execs Γ (.cons (.set 3 (.lst .nil)) (.cons (.for [4, 5, 6] (.name 4) (.seq (.var 1)) b_srow) (.cons (.set 1 (.var 3)) .nil))) s) ds ⟨[.dat (.int n), x1, .un, .un, .un, .un, .un, .un, .un, .un], none⟩
      = some (.nx ⟨[.dat (.int n), x2, .un, .un, .un, .un, .un, .un, .un, .un], none⟩)
  | [], k, x1, hk, hx => by
    simp only [List.length_nil, Nat.add_zero] at hk
    subst hk
    exact ⟨x1, hx, rfl⟩
  | d :: ds, k, x1, hk, hx => by
    simp only [List.length_cons] at hk
    have h1 := hb k (by omega)
    have h2 := hb (k + 1) (by omega)
    obtain ⟨x2, q1, q2⟩ := outer1 (Γ := Γ) hn K hb ds (k + 1) (.dat (.list ((rowsOf (stepRow n) (k + 1)).map tI))) (by omega) (.inr rfl)
    refine ⟨x2, q1, ?_⟩
    have hi := inner1 (Γ := Γ) hn (.dat (.list ((rowsOf (stepRow n) k).map tI))) (.dat d) (rowsOf (stepRow n) k) [] h1.2 (by rw [List.length_nil, Nat.zero_add]; exact h2.1)
    have hI : evalI Γ (.seq (.var 1)) ⟨[.dat (.int n), x1, .dat d, .lst [], .un, .un, .un, .un, .un, .un], none⟩ = some ((rowsOf (stepRow n) k).map tI, ⟨[.dat (.int n), .dat (.list ((rowsOf (stepRow n) k).map tI)), .dat d, .lst [], .un, .un, .un, .un, .un, .un], none⟩) := by
      rcases hx with rfl | rfl <;> simp [evalI, frz, items]
    have z : (0 : Nat) ≤ sizeLine := Nat.zero_le _
    have e : execs Γ (.cons (.set 3 (.lst .nil)) (.cons (.for [4, 5, 6] (.name 4) (.seq (.var 1)) b_srow) (.cons (.set 1 (.var 3)) .nil))) ⟨[.dat (.int n), x1, .dat d, .un, .un, .un, .un, .un, .un, .un], none⟩
        = some (.nx ⟨[.dat (.int n), .dat (.list ((rowsOf (stepRow n) (k + 1)).map tI)), .dat d, .dat (.list ((rowsOf (stepRow n) (k + 1)).map tI)), .un, .un, .un, .un, .un, .un], none⟩) := by
      refine (execs_nx (st' := ⟨[.dat (.int n), x1, .dat d, .lst [], .un, .un, .un, .un, .un, .un], none⟩) (by simp [exec, evals, keep])).trans ?_
      refine (execs_nx (st' := ⟨[.dat (.int n), .dat (.list ((rowsOf (stepRow n) k).map tI)), .dat d, .lst ((rowsOf (stepRow n) (k + 1)).map tI), .un, .un, .un, .un, .un, .un], none⟩) ?_).trans ?_
      · simp only [exec, hI, Option.bind_some]
        exact hi
      · simp [execs, exec, keep, frz]
    rw [forRun_nx (st1 := ⟨[.dat (.int n), .dat (.list ((rowsOf (stepRow n) (k + 1)).map tI)), .dat d, .dat (.list ((rowsOf (stepRow n) (k + 1)).map tI)), .un, .un, .un, .un, .un, .un], none⟩) e]
    exact (forRun_congr (st := ⟨[.dat (.int n), .dat (.list ((rowsOf (stepRow n) (k + 1)).map tI)), .dat d, .dat (.list ((rowsOf (stepRow n) (k + 1)).map tI)), .un, .un, .un, .un, .un, .un], none⟩) (st' := ⟨[.dat (.int n), .dat (.list ((rowsOf (stepRow n) (k + 1)).map tI)), .un, .un, .un, .un, .un, .un, .un, .un], none⟩) rfl).trans q2
theorem srows_run {Γ : Nat → Fn} {n : Nat} (hn : n ≤ 1000) (hb : ∀ k, k ≤ n → (rowsOf (stepRow n) k).length ≤ 1000000 ∧ ∀ r ∈ rowsOf (stepRow n) k, r.length ≤ 1000) : ∃ r, (r = .lst ((rowsOf (stepRow n) n).map tI) ∨ r = .dat (.list ((rowsOf (stepRow n) n).map tI))) ∧ runP Γ 9 b_srows [.int n] = some r := by
  obtain ⟨x2, q1, q2⟩ := outer1 (Γ := Γ) (n := n) ⟨by omega, by omega⟩ n hb ((List.range n).map fun (k : Nat) => .int (k : Int)) 0 (.lst [.tuple []]) (by simp) (.inl rfl)
  have hI : evalI Γ (.rng1 (.var 0)) ⟨[.dat (.int n), .lst [.tuple []], .un, .un, .un, .un, .un, .un, .un, .un], none⟩ = some ((List.range n).map fun (k : Nat) => .int (k : Int), ⟨[.dat (.int n), .lst [.tuple []], .un, .un, .un, .un, .un, .un, .un, .un], none⟩) := by
    have h1 : (n : Int) ≤ 16777216 := by omega
    have h2 : n < 4611686018427387904 := by omega
    simp [evalI, h1, h2]
  have z0 : (0 : Nat) ≤ sizeLine := Nat.zero_le _
  have z1 : (1 : Nat) ≤ sizeLine := by decide
  have go : ∀ r st, execs Γ (.cons (.ret (.var 1)) .nil) ⟨[.dat (.int n), x2, .un, .un, .un, .un, .un, .un, .un, .un], none⟩ = some (.rt r st) → runP Γ 9 b_srows [.int n] = some r := fun r st h => by
    refine runP_rt (st := st) ?_
    show execs Γ b_srows ⟨[.dat (.int n), .un, .un, .un, .un, .un, .un, .un, .un, .un], none⟩ = _
    unfold b_srows
    refine (execs_nx (st' := ⟨[.dat (.int n), .lst [.tuple []], .un, .un, .un, .un, .un, .un, .un, .un], none⟩) (by simp [exec, evals, frz, keep, z1])).trans ?_
    refine (execs_nx (st' := ⟨[.dat (.int n), x2, .un, .un, .un, .un, .un, .un, .un, .un], none⟩) ?_).trans h
    simp only [exec, hI, Option.bind_some]
    exact q2
  rcases q1 with rfl | rfl
  · exact ⟨_, .inl rfl, go _ _ (execs_rt (by simp [exec, res]; rfl))⟩
  · exact ⟨_, .inr rfl, go _ _ (execs_rt (by simp [exec, res]; rfl))⟩
end Pf

set_option maxRecDepth 100000
/-! K59e: all signed rows, the second way. -/
namespace Pf
open PySem
def cond2 (row : List Int) (x : Int) : Bool := !decide (x = 0) && (!decide (x ∈ row) && !decide (0 - x ∈ row))
def stepRow2 (n : Int) (row : List Int) : List (List Int) := ((rgI (0 - n) (n + 1)).filter (cond2 row)).map fun x => row ++ [x]
def b_x : Sms := (.cons (.ite (.and2 (.op2 .ne (.var 5) (.cst (.int 0))) (.and2 (.op2 .notin (.var 5) (.var 4)) (.op2 .notin (.op2 .sub (.cst (.int 0)) (.var 5)) (.var 4)))) (.cons (.app 3 (.op2 .add (.var 4) (.tup (.cons (.var 5) .nil)))) .nil) .nil) .nil)
def b_rows2 : Sms := (.cons (.set 1 (.lst (.cons (.tup .nil) .nil))) (.cons (.for [2, 3, 4, 5] (.name 2) (.rng1 (.var 0)) (.cons (.set 3 (.lst .nil)) (.cons (.for [4, 5] (.name 4) (.seq (.var 1)) (.cons (.for [5] (.name 5) (.rng2 (.op2 .sub (.cst (.int 0)) (.var 0)) (.op2 .add (.var 0) (.cst (.int 1)))) b_x) .nil)) (.cons (.set 1 (.var 3)) .nil)))) (.cons (.ret (.bi .sorted (.cons (.var 1) .nil))) .nil)))
theorem x_run {Γ : Nat → Fn} {n x1 lap : Sl} {late : List D} {row : List Int} (hr : row.length ≤ 1000) (hl : late.length < 1000000) (x : Int) :
    execs Γ b_x ⟨[n, x1, lap, .lst late, .dat (tI row), .dat (.int x)], none⟩ = some (.nx ⟨[n, x1, lap, .lst (if cond2 row x then late ++ [tI (row ++ [x])] else late), .dat (tI row), .dat (.int x)], none⟩) := by
  have h1 := evIn_int x row
  have h2 := evIn_int (0 - x) row
  have h1' : evIn (.int x) (tI row) = _ := h1
  have h2' : evIn (.int (0 - x)) (tI row) = _ := h2
  have z1 : (1 : Nat) ≤ sizeLine := by decide
  have hz : row.length + 1 ≤ sizeLine := by rw [sizeLine_eq]; omega
  have hz2 : late.length < sizeLine := by rw [sizeLine_eq]; omega
  unfold b_x
  refine (execs_nx (st' := ⟨[n, x1, lap, .lst (if cond2 row x then late ++ [tI (row ++ [x])] else late), .dat (tI row), .dat (.int x)], none⟩) ?_).trans (by simp only [execs])
  have e0 := evEq_int x 0
  unfold cond2
  by_cases c0 : x = 0
  · rw [decide_eq_true c0] at e0 ⊢
    simp [exec, res, evOp2, e0, bo, asBool, execs]
  · rw [decide_eq_false c0] at e0 ⊢
    by_cases c1 : x ∈ row
    · rw [decide_eq_true c1] at h1' ⊢
      simp [exec, res, evOp2, e0, h1', bo, asBool, execs]
    · rw [decide_eq_false c1] at h1' ⊢
      by_cases c2 : 0 - x ∈ row
      · rw [decide_eq_true c2] at h2' ⊢
        simp [-Int.zero_sub, exec, res, evOp2, e0, h1', h2', evInt, bo, asBool, execs]
      · rw [decide_eq_false c2] at h2' ⊢
        have ha : evAdd (tI row) (.tuple [.int x]) = some (.dat (tI (row ++ [x]))) := by
          simp [evAdd, tI, hz]
        simp [-Int.zero_sub, exec, res, evOp2, e0, h1', h2', evInt, bo, asBool, execs, isLst, evals, frz, ha, hz2, z1]
theorem xs_run {Γ : Nat → Fn} {n x1 lap : Sl} {row : List Int} (hr : row.length ≤ 1000) : ∀ (xs : List Int) (late : List D), late.length + (xs.filter (cond2 row)).length ≤ 1000000 - 1 →
    forRun [5] (fun d s => (bindT (.name 5) d s).bind fun s => execs Γ b_x s) (xs.map .int) ⟨[n, x1, lap, .lst late, .dat (tI row), .un], none⟩ = some (.nx ⟨[n, x1, lap, .lst (late ++ ((xs.filter (cond2 row)).map fun x => row ++ [x]).map tI), .dat (tI row), .un], none⟩)
  | [], late, _ => by simp [forRun, clear, unAt]
  | x :: xs, late, hb => by
    have e := x_run (Γ := Γ) (n := n) (x1 := x1) (lap := lap) (late := late) hr (by omega) x
    rw [List.map_cons, forRun_nx (st1 := ⟨[n, x1, lap, .lst (if cond2 row x then late ++ [tI (row ++ [x])] else late), .dat (tI row), .dat (.int x)], none⟩) e]
    refine (forRun_congr (st := ⟨[n, x1, lap, .lst (if cond2 row x then late ++ [tI (row ++ [x])] else late), .dat (tI row), .dat (.int x)], none⟩) (st' := ⟨[n, x1, lap, .lst (if cond2 row x then late ++ [tI (row ++ [x])] else late), .dat (tI row), .un], none⟩) rfl).trans ?_
    by_cases h : cond2 row x
    · rw [List.filter_cons_of_pos h] at hb ⊢
      simp only [h, if_true]
      refine (xs_run hr xs _ (by simp only [List.length_append, List.length_cons, List.length_nil] at hb ⊢; omega)).trans ?_
      simp
    · rw [List.filter_cons_of_neg h] at hb ⊢
      simp only [h, if_false, Bool.false_eq_true]
      exact xs_run hr xs _ hb
theorem inner2 {Γ : Nat → Fn} {n : Int} (hn : 0 ≤ n ∧ n ≤ 1000) (x1 lap : Sl) : ∀ (F : List (List Int)) (late : List D), (∀ r ∈ F, r.length ≤ 1000) → late.length + (F.flatMap (stepRow2 n)).length ≤ 1000000 - 1 →
    forRun [4, 5] (fun d s => (bindT (.name 4) d s).bind fun s => execs Γ (.cons (.for [5] (.name 5) (.rng2 (.op2 .sub (.cst (.int 0)) (.var 0)) (.op2 .add (.var 0) (.cst (.int 1)))) b_x) .nil) s) (F.map tI) ⟨[.dat (.int n), x1, lap, .lst late, .un, .un], none⟩ = some (.nx ⟨[.dat (.int n), x1, lap, .lst (late ++ (F.flatMap (stepRow2 n)).map tI), .un, .un], none⟩)
  | [], late, _, _ => by simp [forRun, clear, unAt]
  | r :: F, late, hr, hb => by
    simp only [List.flatMap_cons, List.length_append] at hb
    have ex := xs_run (Γ := Γ) (n := .dat (.int n)) (x1 := x1) (lap := lap) (row := r) (hr r (by simp)) (rgI (0 - n) (n + 1)) late (by simp only [stepRow2, List.length_map] at hb; omega)
    have hI : evalI Γ (.rng2 (.op2 .sub (.cst (.int 0)) (.var 0)) (.op2 .add (.var 0) (.cst (.int 1)))) ⟨[.dat (.int n), x1, lap, .lst late, .dat (tI r), .un], none⟩ = some ((rgI (0 - n) (n + 1)).map .int, ⟨[.dat (.int n), x1, lap, .lst late, .dat (tI r), .un], none⟩) := by
      have q1 : (0 - n).natAbs < 1152921504606846976 := by omega
      have q2 : (n + 1).natAbs < 1152921504606846976 := by omega
      have q5 : n + 1 - (0 - n) ≤ 16777216 := by omega
      simp [-List.map_map, -Int.zero_sub, evalI, res, evOp2, evAdd, evInt, q1, q2, q5]
      unfold rgI
      rw [List.map_map]
      rfl
    have e : execs Γ (.cons (.for [5] (.name 5) (.rng2 (.op2 .sub (.cst (.int 0)) (.var 0)) (.op2 .add (.var 0) (.cst (.int 1)))) b_x) .nil) ⟨[.dat (.int n), x1, lap, .lst late, .dat (tI r), .un], none⟩ = some (.nx ⟨[.dat (.int n), x1, lap, .lst (late ++ (stepRow2 n r).map tI), .dat (tI r), .un], none⟩) := by
      refine (execs_nx (st' := ⟨[.dat (.int n), x1, lap, .lst (late ++ (stepRow2 n r).map tI), .dat (tI r), .un], none⟩) ?_).trans (by simp only [execs])
      simp only [exec, hI, Option.bind_some]
      exact ex
    have ih := inner2 (Γ := Γ) hn x1 lap F (late ++ (stepRow2 n r).map tI) (fun q hq => hr q (by simp [hq])) (by simp only [List.length_append, List.length_map]; omega)
    rw [List.map_cons, forRun_nx (st1 := ⟨[.dat (.int n), x1, lap, .lst (late ++ (stepRow2 n r).map tI), .dat (tI r), .un], none⟩) e]
    refine (forRun_congr (st := ⟨[.dat (.int n), x1, lap, .lst (late ++ (stepRow2 n r).map tI), .dat (tI r), .un], none⟩) (st' := ⟨[.dat (.int n), x1, lap, .lst (late ++ (stepRow2 n r).map tI), .un, .un], none⟩) rfl).trans (ih.trans ?_)
    simp [List.flatMap_cons, List.append_assoc]
theorem outer2 {Γ : Nat → Fn} {n : Int} (hn : 0 ≤ n ∧ n ≤ 1000) (K : Nat) (hb : ∀ k, k ≤ K → (rowsOf (stepRow2 n) k).length ≤ 1000000 - 1 ∧ ∀ r ∈ rowsOf (stepRow2 n) k, r.length ≤ 1000) : ∀ (ds : List D) (k : Nat) (x1 : Sl), k + ds.length = K → SlL ((rowsOf (stepRow2 n) k).map tI) x1 →
    ∃ x2, SlL ((rowsOf (stepRow2 n) K).map tI) x2 ∧ forRun [2, 3, 4, 5] (fun d s => (bindT (.name 2) d s).bind fun s => execs Γ (.cons (.set 3 (.lst .nil)) (.cons (.for [4, 5] (.name 4) (.seq (.var 1)) (.cons (.for [5] (.name 5) (.rng2 (.op2 .sub (.cst (.int 0)) (.var 0)) (.op2 .add (.var 0) (.cst (.int 1)))) b_x) .nil)) (.cons (.set 1 (.var 3)) .nil))) s) ds ⟨[.dat (.int n), x1, .un, .un, .un, .un], none⟩
      = some (.nx ⟨[.dat (.int n), x2, .un, .un, .un, .un], none⟩)
  | [], k, x1, hk, hx => by
    simp only [List.length_nil, Nat.add_zero] at hk
    subst hk
    exact ⟨x1, hx, rfl⟩
  | d :: ds, k, x1, hk, hx => by
    simp only [List.length_cons] at hk
    have h1 := hb k (by omega)
    have h2 := hb (k + 1) (by omega)
    obtain ⟨x2, q1, q2⟩ := outer2 (Γ := Γ) hn K hb ds (k + 1) (.dat (.list ((rowsOf (stepRow2 n) (k + 1)).map tI))) (by omega) (.inr rfl)
    refine ⟨x2, q1, ?_⟩
    have hi := inner2 (Γ := Γ) hn (.dat (.list ((rowsOf (stepRow2 n) k).map tI))) (.dat d) (rowsOf (stepRow2 n) k) [] h1.2 (by rw [List.length_nil, Nat.zero_add]; exact h2.1)
    have hI : evalI Γ (.seq (.var 1)) ⟨[.dat (.int n), x1, .dat d, .lst [], .un, .un], none⟩ = some ((rowsOf (stepRow2 n) k).map tI, ⟨[.dat (.int n), .dat (.list ((rowsOf (stepRow2 n) k).map tI)), .dat d, .lst [], .un, .un], none⟩) := by
      rcases hx with rfl | rfl <;> simp [evalI, frz, items]
    have z : (0 : Nat) ≤ sizeLine := Nat.zero_le _
    have e : execs Γ (.cons (.set 3 (.lst .nil)) (.cons (.for [4, 5] (.name 4) (.seq (.var 1)) (.cons (.for [5] (.name 5) (.rng2 (.op2 .sub (.cst (.int 0)) (.var 0)) (.op2 .add (.var 0) (.cst (.int 1)))) b_x) .nil)) (.cons (.set 1 (.var 3)) .nil))) ⟨[.dat (.int n), x1, .dat d, .un, .un, .un], none⟩
        = some (.nx ⟨[.dat (.int n), .dat (.list ((rowsOf (stepRow2 n) (k + 1)).map tI)), .dat d, .dat (.list ((rowsOf (stepRow2 n) (k + 1)).map tI)), .un, .un], none⟩) := by
      refine (execs_nx (st' := ⟨[.dat (.int n), x1, .dat d, .lst [], .un, .un], none⟩) (by simp [exec, evals, keep])).trans ?_
      refine (execs_nx (st' := ⟨[.dat (.int n), .dat (.list ((rowsOf (stepRow2 n) k).map tI)), .dat d, .lst ((rowsOf (stepRow2 n) (k + 1)).map tI), .un, .un], none⟩) ?_).trans ?_
      · simp only [exec, hI, Option.bind_some]
        exact hi
      · simp [execs, exec, keep, frz]
    rw [forRun_nx (st1 := ⟨[.dat (.int n), .dat (.list ((rowsOf (stepRow2 n) (k + 1)).map tI)), .dat d, .dat (.list ((rowsOf (stepRow2 n) (k + 1)).map tI)), .un, .un], none⟩) e]
    exact (forRun_congr (st := ⟨[.dat (.int n), .dat (.list ((rowsOf (stepRow2 n) (k + 1)).map tI)), .dat d, .dat (.list ((rowsOf (stepRow2 n) (k + 1)).map tI)), .un, .un], none⟩) (st' := ⟨[.dat (.int n), .dat (.list ((rowsOf (stepRow2 n) (k + 1)).map tI)), .un, .un, .un, .un], none⟩) rfl).trans q2
theorem rows2_run {Γ : Nat → Fn} {n : Nat} (hn : n ≤ 1000) (hb : ∀ k, k ≤ n → (rowsOf (stepRow2 n) k).length ≤ 1000000 - 1 ∧ ∀ r ∈ rowsOf (stepRow2 n) k, r.length ≤ 1000) (hs : bSorted (.list ((rowsOf (stepRow2 n) n).map tI)) = some (.lst ((rowsOf (stepRow2 n) n).map tI))) : runP Γ 5 b_rows2 [.int n] = some (.lst ((rowsOf (stepRow2 n) n).map tI)) := by
  obtain ⟨x2, q1, q2⟩ := outer2 (Γ := Γ) (n := n) ⟨by omega, by omega⟩ n hb ((List.range n).map fun (k : Nat) => .int (k : Int)) 0 (.lst [.tuple []]) (by simp) (.inl rfl)
  have hI : evalI Γ (.rng1 (.var 0)) ⟨[.dat (.int n), .lst [.tuple []], .un, .un, .un, .un], none⟩ = some ((List.range n).map fun (k : Nat) => .int (k : Int), ⟨[.dat (.int n), .lst [.tuple []], .un, .un, .un, .un], none⟩) := by
    have h1 : (n : Int) ≤ 16777216 := by omega
    have h2 : n < 4611686018427387904 := by omega
    simp [evalI, h1, h2]
  have z0 : (0 : Nat) ≤ sizeLine := Nat.zero_le _
  have z1 : (1 : Nat) ≤ sizeLine := by decide
  refine runP_rt (st := ⟨[.dat (.int n), x2, .un, .un, .un, .un], none⟩) ?_
  show execs Γ b_rows2 ⟨[.dat (.int n), .un, .un, .un, .un, .un], none⟩ = _
  unfold b_rows2
  refine (execs_nx (st' := ⟨[.dat (.int n), .lst [.tuple []], .un, .un, .un, .un], none⟩) (by simp [exec, evals, frz, keep, z1])).trans ?_
  refine (execs_nx (st' := ⟨[.dat (.int n), x2, .un, .un, .un, .un], none⟩) ?_).trans (execs_rt ?_)
  · simp only [exec, hI, Option.bind_some]
    exact q2
  · rcases q1 with rfl | rfl <;> simp [exec, evalv, resAll, res, evBi, ev1, hs]
end Pf

set_option maxRecDepth 100000
/-! K59f: the rows up to 4; what repr takes. -/
namespace Pf
open PySem
def adjB : List (List Int) → Bool
  | [] => true
  | [_] => true
  | a :: b :: r => decide (a ≤ b) && adjB (b :: r)
theorem adj_pairwise : ∀ {l : List (List Int)}, adjB l = true → l.Pairwise (· ≤ ·)
  | [], _ => .nil
  | [a], _ => List.pairwise_singleton _ _
  | a :: b :: r, h => by
    simp only [adjB, Bool.and_eq_true, decide_eq_true_eq] at h
    have ih := adj_pairwise h.2
    refine List.pairwise_cons.mpr ⟨fun c hc => ?_, ih⟩
    rcases List.mem_cons.mp hc with rfl | hc
    · exact h.1
    · exact List.le_trans h.1 ((List.pairwise_cons.mp ih).1 c hc)
theorem alike_ints : ∀ xs ys : List Int, W.alikeAll (xs.map PyData.int) (ys.map .int) = true
  | [], _ => by simp [W.alikeAll]
  | _ :: _, [] => by simp [W.alikeAll]
  | x :: xs, y :: ys => by
    simp only [List.map_cons, W.alikeAll, alike_ints xs ys, Bool.and_true]
    simp [W.alike]
theorem sorted_rows {rows : List (List Int)} (h0 : ∀ r ∈ rows, r ≠ []) (h : adjB rows = true) : bSorted (.list (rows.map tI)) = some (.lst (rows.map tI)) := by
  have hok : sortOk (rows.map tI) = true := by
    unfold sortOk
    simp only [Bool.and_eq_true, Bool.or_eq_true, List.all_eq_true, List.mem_map]
    refine ⟨⟨?_, ?_⟩, .inl (.inl ?_)⟩
    · rintro d ⟨r, _, rfl⟩
      simp [tI, okD]
    · rintro a ⟨r, _, rfl⟩ b ⟨q, _, rfl⟩
      simp only [tI, W.alike]
      exact alike_ints r q
    · rintro d ⟨r, hr, rfl⟩
      cases r with
      | nil => exact absurd rfl (h0 _ hr)
      | cons x xs => rfl
  have hs : sortD (rows.map tI) = rows.map tI := by
    unfold sortD
    have hd : W.dataLe false (fun b : List Int => PyData.tuple (b.map .int)) = fun p q => decide (p ≤ q) := W.dataLe_rows (β := List Int) id
    have := List.map_mergeSort (r := fun a b : List Int => decide (a ≤ b)) (s := W.dataLe false (id : D → D)) (f := tI) (l := rows) (fun a _ b _ => (congrFun (congrFun hd a) b).symm)
    rw [← this, List.mergeSort_of_pairwise]
    exact (adj_pairwise h).imp fun h => by simpa using h
  simp [bSorted, listOf, hok, hs]
def rowsOkB (n : Nat) : Bool := decide (rowsOf (stepRow n) n = rowsOf (stepRow2 n) n) && adjB (rowsOf (stepRow2 n) n) && (rowsOf (stepRow n) n).all (fun r => !r.isEmpty && r.all fun x => decide (x.natAbs < 100)) && decide ((rowsOf (stepRow n) n).length ≤ 1000) &&
  (List.range (n + 1)).all fun k => decide ((rowsOf (stepRow n) k).length ≤ 10000) && (rowsOf (stepRow n) k).all (fun r => decide (r.length ≤ 100)) && decide ((rowsOf (stepRow2 n) k).length ≤ 10000) && (rowsOf (stepRow2 n) k).all (fun r => decide (r.length ≤ 100))
theorem rows_ok1 : rowsOkB 1 = true := by decide +kernel
theorem rows_ok2 : rowsOkB 2 = true := by decide +kernel
theorem rows_ok3 : rowsOkB 3 = true := by decide +kernel
theorem rows_ok4 : rowsOkB 4 = true := by decide +kernel
theorem shown_small : ∀ k : Fin 199, (PyData.shown (.int ((k.val : Int) - 99))).length ≤ 13 := by decide +kernel
end Pf

set_option maxRecDepth 100000
/-! K59g: the mathematics: ranks keep the arrows; a standing row is a signed row. -/
namespace Pf
open PySem
theorem rank_mono {L : List Int} {u v : Int} (hu : u ∈ L) (h : u < v) : rank L u < rank L v := by
  unfold rank
  induction L with
  | nil => simp at hu
  | cons x L ih =>
    rw [List.countP_cons, List.countP_cons]
    have le : ∀ L : List Int, L.countP (fun y => decide (y < u)) ≤ L.countP (fun y => decide (y < v)) := fun L =>
      List.countP_mono_left fun y _ hy => by simp at hy ⊢; omega
    have := le L
    rcases List.mem_cons.mp hu with rfl | hm
    · have h1 : ¬ u < u := by omega
      simp [h, h1]
      omega
    · have ih := ih hm
      by_cases h1 : x < u
      · have h2 : x < v := by omega
        simp [h1, h2]; omega
      · by_cases h2 : x < v <;> simp [h1, h2] <;> omega
theorem sgn1_cases {x : Int} (h : x ≠ 0) : (0 < x ∧ sgn1 x = 1 ∧ absI x = x) ∨ (x < 0 ∧ sgn1 x = -1 ∧ absI x = -x) := by
  unfold sgn1 absI
  by_cases h1 : 0 < x
  · refine .inl ⟨h1, if_pos h1, if_neg (by omega)⟩
  · refine .inr ⟨by omega, if_neg h1, if_pos (by omega)⟩
/-- a reading of the ranks has the sign of the reading -/
theorem reading_sign {L : List Int} {x y s : Int} (hx : x ≠ 0) (hy : y ≠ 0) (mx : absI x ∈ L) (my : absI y ∈ L) (hs : s = 1 ∨ s = -1) :
    (((rank L (absI x) : Int) + 1) * sgn1 x - s * (((rank L (absI y) : Int) + 1) * sgn1 y) = 0 ↔ x - s * y = 0) ∧ sgn1 (((rank L (absI x) : Int) + 1) * sgn1 x - s * (((rank L (absI y) : Int) + 1) * sgn1 y)) = sgn1 (x - s * y) := by
  have m1 : absI x < absI y → rank L (absI x) < rank L (absI y) := rank_mono mx
  have m2 : absI y < absI x → rank L (absI y) < rank L (absI x) := rank_mono my
  have m3 : absI x = absI y → rank L (absI x) = rank L (absI y) := fun e => by rw [e]
  generalize rank L (absI x) = p at m1 m2 m3
  generalize rank L (absI y) = q at m1 m2 m3
  have key : ∀ a b : Int, (a = 0 ↔ b = 0) → (0 < a ↔ 0 < b) → (a = 0 ↔ b = 0) ∧ sgn1 a = sgn1 b := fun a b h1 h2 => ⟨h1, by unfold sgn1; by_cases h : 0 < a <;> simp [h, h2.mp, (not_congr h2).mp, h2] <;> simp [h2] at h <;> simp [h]⟩
  rcases sgn1_cases hx with ⟨x0, x1, x2⟩ | ⟨x0, x1, x2⟩ <;> rcases sgn1_cases hy with ⟨y0, y1, y2⟩ | ⟨y0, y1, y2⟩ <;> rw [x1, y1] <;> rw [x2, y2] at m1 m2 m3 <;> rcases hs with rfl | rfl <;> apply key <;> omega
theorem map_rank_sorted : ∀ {l : List Int}, l.Pairwise (· < ·) → l.map (fun v => rank l v) = List.range l.length
  | [], _ => rfl
  | x :: l, h => by
    have h1 := List.pairwise_cons.mp h
    have ih := map_rank_sorted h1.2
    have e0 : rank (x :: l) x = 0 := by
      unfold rank
      rw [List.countP_eq_zero]
      intro y hy
      rcases List.mem_cons.mp hy with rfl | hy
      · simp
      · have := h1.1 y hy
        simp; omega
    have e1 : l.map (fun v => rank (x :: l) v) = l.map (fun v => rank l v + 1) := by
      apply List.map_congr_left
      intro v hv
      have := h1.1 v hv
      unfold rank
      simp [List.countP_cons, this]
    rw [List.map_cons, e0, e1, List.length_cons, List.range_succ_eq_map, ← ih, List.map_map]
    rfl
theorem sorted_eq : ∀ {l m : List Int}, l.Perm m → l.Pairwise (· ≤ ·) → m.Pairwise (· ≤ ·) → l = m := by
  intro l m h h1 h2
  exact h.eq_of_pairwise (fun a b _ _ h3 h4 => by omega) h1 h2
/-- distinct numbers: the ranks are 1 .. n -/
theorem ranks_perm {L : List Int} (hn : L.Nodup) : (L.map fun v => (rank L v : Int) + 1).Perm (rgI 1 (L.length + 1)) := by
  let l := L.mergeSort fun a b => decide (a ≤ b)
  have hp : l.Perm L := List.mergeSort_perm _ _
  have hle : l.Pairwise (· ≤ ·) := by
    have := List.pairwise_mergeSort (le := fun a b : Int => decide (a ≤ b)) (fun a b c h1 h2 => by simp at *; omega) (fun a b => by simp; omega) L
    exact this.imp fun h => by simpa using h
  have hnd : l.Nodup := hp.nodup_iff.mpr hn
  have hlt : l.Pairwise (· < ·) := by
    have : l.Pairwise fun a b => a ≤ b ∧ a ≠ b := List.Pairwise.and hle hnd
    exact this.imp fun ⟨h1, h2⟩ => by omega
  have e1 := map_rank_sorted hlt
  have e2 : (l.map fun v => (rank L v : Int) + 1) = rgI 1 (L.length + 1) := by
    have : (l.map fun v => (rank L v : Int) + 1) = (l.map fun v => rank l v).map fun (k : Nat) => (k : Int) + 1 := by
      rw [List.map_map]
      apply List.map_congr_left
      intro v _
      simp [rank_perm hp v]
    rw [this, e1]
    unfold rgI
    have : ((L.length : Int) + 1 - 1).toNat = l.length := by rw [hp.length_eq]; omega
    rw [this]
    apply List.map_congr_left
    intro k _
    omega
  rw [← e2]
  exact (hp.symm.map _)
theorem rgI_sorted (a b : Int) : (rgI a b).Pairwise (· ≤ ·) := by
  unfold rgI
  rw [List.pairwise_map]
  exact List.pairwise_lt_range.imp fun h => by omega
/-- a standing row is a signed row -/
theorem stand_row {n : Int} {hs : List Int} {b : Bool} (h0 : ∀ x ∈ hs, x ≠ 0) (hn : (hs.map absI).Nodup) (hl : (hs.length : Int) = n) (h : RowAns n (standR hs) b) : b = true := by
  obtain ⟨l, h1, rfl⟩ := h.ex
  obtain ⟨m, k1, k2, k3⟩ := bSorted_ints ((standR hs).map absI)
  rw [h1] at k1
  simp only [Option.some.injEq, Rv.lst.injEq] at k1
  have hlm : l = m := intL_inj k1
  subst hlm
  have ha : (standR hs).map absI = (hs.map absI).map fun v => (rank (hs.map absI) v : Int) + 1 := by
    unfold standR
    rw [List.map_map, List.map_map]
    apply List.map_congr_left
    intro x hx
    rcases sgn1_cases (h0 x hx) with ⟨_, e, _⟩ | ⟨_, e, _⟩ <;> simp only [Function.comp, e] <;> unfold absI <;> split <;> omega
  rw [ha] at k2
  have hp := k2.trans (ranks_perm hn)
  rw [List.length_map, hl] at hp
  exact decide_eq_true (sorted_eq hp k3 (rgI_sorted _ _))
end Pf

set_option maxRecDepth 100000
/-! K59h: what repr takes. -/
namespace Pf
open PySem
/-- short: ints below 10 ^ 12, short texts, nested at most k deep -/
def smD : Nat → D → Bool
  | _, .none => true
  | _, .bool _ => true
  | _, .int i => decide (i.natAbs < 1000000000000)
  | _, .str x => PyData.strOk x && x.cps.toList.all fun c => decide (c < 16 ^ 8)
  | 0, .list _ => false
  | 0, .tuple _ => false
  | k + 1, .list xs => xs.all (smD k)
  | k + 1, .tuple xs => xs.all (smD k)
  | _, .dict _ => false
mutual
theorem smD_ok : ∀ (k : Nat) (d : D), smD k d = true → okD k d = true ∧ d.showable = true ∧ d.leavesShort 13 = true
  | k, .none, _ => by cases k <;> exact ⟨rfl, by simp [PyData.showable], by simp [PyData.leavesShort]⟩
  | k, .bool _, _ => by cases k <;> exact ⟨rfl, by simp [PyData.showable], by simp [PyData.leavesShort]⟩
  | k, .int i, h => by
    have hi : i.natAbs < 1000000000000 := by cases k <;> exact of_decide_eq_true h
    have hs : (PyData.shown (.int i)).length ≤ 13 := PyData.shown_int_le (by omega)
    have hl : i.natAbs.log2 < 1920 := by
      have : i.natAbs.log2 < 40 := by
        by_cases z : i.natAbs = 0
        · rw [z]; decide
        · rw [Nat.log2_lt z]; omega
      omega
    refine ⟨by cases k <;> rfl, ?_, ?_⟩
    · simp only [PyData.showable]
      exact decide_eq_true hl
    · simp only [PyData.leavesShort]
      exact decide_eq_true hs
  | k, .str x, h => by
    have h' : (PyData.strOk x && x.cps.toList.all fun c => decide (c < 16 ^ 8)) = true := by cases k <;> exact h
    simp only [Bool.and_eq_true] at h'
    refine ⟨by cases k <;> exact h'.1, by simp [PyData.showable], ?_⟩
    simp only [PyData.leavesShort]
    exact h'.2
  | 0, .list _, h => by simp [smD] at h
  | 0, .tuple _, h => by simp [smD] at h
  | k + 1, .list xs, h => by
    have := smD_all k xs (by simpa [smD] using h)
    exact ⟨by simpa [okD] using this.1, by simp only [PyData.showable]; exact this.2.1, by simp only [PyData.leavesShort]; exact this.2.2⟩
  | k + 1, .tuple xs, h => by
    have := smD_all k xs (by simpa [smD] using h)
    exact ⟨by simpa [okD] using this.1, by simp only [PyData.showable]; exact this.2.1, by simp only [PyData.leavesShort]; exact this.2.2⟩
  | k, .dict _, h => by cases k <;> simp [smD] at h
theorem smD_all : ∀ (k : Nat) (ds : List D), (∀ d ∈ ds, smD k d = true) → (∀ d ∈ ds, okD k d = true) ∧ PyData.showableAll ds = true ∧ PyData.leavesShortAll 13 ds = true
  | k, [], _ => ⟨fun _ h => by simp at h, by simp [PyData.showableAll], by simp [PyData.leavesShortAll]⟩
  | k, d :: ds, h => by
    obtain ⟨a1, a2, a3⟩ := smD_ok k d (h d (by simp))
    obtain ⟨b1, b2, b3⟩ := smD_all k ds fun x hx => h x (by simp [hx])
    refine ⟨fun x hx => ?_, by simp [PyData.showableAll, a2, b2], by simp [PyData.leavesShortAll, a3, b3]⟩
    rcases List.mem_cons.mp hx with rfl | hx
    · exact a1
    · exact b1 x hx
end
/-- data that repr takes -/
structure ShD (d : D) : Prop where
  sm : smD 12 d = true
  bk : d.bulk ≤ 1000000
theorem ShD.repr {d : D} (h : ShD d) : bRepr d = some (.dat (.str d.shown)) := by
  obtain ⟨h1, h2, h3⟩ := smD_ok 12 d h.sm
  unfold bRepr reprOk
  have : d.bulk ≤ 2 ^ 20 := by have := h.bk; omega
  simp [h1, h2, h3, this]
theorem evEq_str (x y : Str) : evEq (.str x) (.str y) = some (x == y) := rfl
theorem bulk_ints : ∀ xs : List Int, PyData.bulkAll (xs.map .int) = xs.length
  | [] => by simp [PyData.bulkAll]
  | x :: xs => by simp [PyData.bulkAll, PyData.bulk, bulk_ints xs]; omega
theorem shD_tI {xs : List Int} (h : ∀ x ∈ xs, x.natAbs < 100) (hl : xs.length ≤ 1000) : ShD (tI xs) where
  sm := by
    simp only [tI, smD, List.all_eq_true, List.mem_map]
    rintro d ⟨x, hx, rfl⟩
    have := h x hx
    exact decide_eq_true (by omega)
  bk := by
    simp only [tI, PyData.bulk, bulk_ints]
    omega
theorem bulk_rows : ∀ rows : List (List Int), (∀ r ∈ rows, r.length ≤ 50) → PyData.bulkAll (rows.map tI) ≤ 51 * rows.length
  | [], _ => by simp [PyData.bulkAll]
  | r :: rows, h => by
    have h1 := h r (by simp)
    have ih := bulk_rows rows fun q hq => h q (by simp [hq])
    simp only [List.map_cons, PyData.bulkAll, tI, PyData.bulk, bulk_ints, List.length_cons] at ih ⊢
    omega
theorem shD_rows {rows : List (List Int)} (h : ∀ r ∈ rows, r.length ≤ 50 ∧ ∀ x ∈ r, x.natAbs < 100) (hl : rows.length ≤ 10000) : ShD (.list (rows.map tI)) where
  sm := by
    simp only [smD, List.all_eq_true, List.mem_map]
    rintro d ⟨r, hr, rfl⟩
    have := (h r hr).2
    simp only [tI, smD, List.all_eq_true, List.mem_map]
    rintro d ⟨x, hx, rfl⟩
    have := this x hx
    exact decide_eq_true (by omega)
  bk := by
    have := bulk_rows rows fun r hr => (h r hr).1
    simp only [PyData.bulk]
    omega
theorem bulk_roads : ∀ rs : List Road, PyData.bulkAll (rs.map rdD) = 4 * rs.length
  | [] => by simp [PyData.bulkAll]
  | r :: rs => by
    simp only [List.map_cons, PyData.bulkAll, rdD, PyData.bulk, bulk_roads rs, List.length_cons]
    omega
theorem shD_frame {n : Int} {rs : List Road} (hn : n ≤ 50) (h0 : 0 ≤ n) (h : ∀ r ∈ rs, RoadOk n r) (hl : rs.length ≤ 1000) : ShD (frD n rs) where
  sm := by
    simp only [frD, smD, List.all_cons, List.all_nil, Bool.and_true, Bool.and_eq_true, decide_eq_true_eq, List.all_eq_true, List.mem_map]
    refine ⟨by omega, ?_⟩
    rintro d ⟨r, hr, rfl⟩
    obtain ⟨⟨a0, a1⟩, ⟨b0, b1⟩, hs⟩ := h r hr
    simp only [rdD, smD, List.all_cons, List.all_nil, Bool.and_true, Bool.and_eq_true, decide_eq_true_eq]
    rcases hs with e | e <;> omega
  bk := by
    simp only [frD, PyData.bulk, PyData.bulkAll, bulk_roads]
    omega
end Pf

set_option maxRecDepth 100000
/-! K59i: the law's own body, the parts that draw. -/
namespace Pf
open PySem
theorem perm_ints {ys : List D} {zs : List Int} (h : ys.Perm (zs.map .int)) : ∃ xs : List Int, ys = xs.map .int ∧ xs.Perm zs := by
  let g : D → Int := fun d => match d with | .int i => i | _ => 0
  have hall : ∀ d ∈ ys, ∃ i, d = .int i := fun d hd => by
    have := h.mem_iff.mp hd
    obtain ⟨i, _, rfl⟩ := List.mem_map.mp this
    exact ⟨i, rfl⟩
  refine ⟨ys.map g, ?_, ?_⟩
  · rw [List.map_map]
    have : ys.map (PyData.int ∘ g) = ys.map id := List.map_congr_left fun d hd => by
      obtain ⟨i, rfl⟩ := hall d hd
      rfl
    rw [this, List.map_id]
  · have := h.map g
    rw [List.map_map] at this
    have e : zs.map (g ∘ PyData.int) = zs.map id := List.map_congr_left fun d _ => rfl
    rw [e, List.map_id] at this
    exact this
theorem sizes_ok {n : Int} (h0 : 0 ≤ n) (hn : n ≤ 5) {zs : List Int} (h : zs.Perm (rgI 1 (3 * n + 1))) : (zs.take n.toNat).length = n.toNat ∧ (zs.take n.toNat).Nodup ∧ ∀ x ∈ zs.take n.toNat, 1 ≤ x ∧ x ≤ 3 * n := by
  have hl : zs.length = (3 * n).toNat := by
    rw [h.length_eq, rgI_len]
    omega
  refine ⟨by rw [List.length_take]; omega, ?_, fun x hx => ?_⟩
  · have : (rgI 1 (3 * n + 1)).Nodup := by
      unfold rgI
      exact (List.pairwise_map.mpr (List.nodup_range.imp fun h e => h (by omega)))
    exact (h.nodup_iff.mpr this).sublist (List.take_sublist _ _)
  · have := h.mem_iff.mp (List.mem_of_mem_take hx)
    unfold rgI at this
    simp only [List.mem_map, List.mem_range] at this
    obtain ⟨k, hk, rfl⟩ := this
    omega
/-- the slots of the law, from n on -/
abbrev S20 (v2 v3 v4 v5 v6 v7 v8 v9 v10 v11 v12 v13 v14 v15 v16 v17 : Sl) (s : Src) : St := ⟨[.un, .src, v2, v3, v4, v5, v6, v7, v8, v9, v10, v11, v12, v13, v14, v15, v16, v17, .un, .un], some s⟩
def e_h : Ex := (.op2 .mul (.callS 6 (.cons (.var 1) (.cons (.lst (.cons (.cst (.int 1)) (.cons (.neg (.cst (.int 1))) .nil))) .nil))) (.var 18))
theorem heights_comp {Γ : Nat → Fn} (ho : HasOf Γ 6) (v2 v3 v4 v5 v6 v7 v8 v9 v10 v11 v12 v13 v14 v15 v16 v17 : Sl) : ∀ (zs : List Int) (s : Src), (∀ x ∈ zs, 1 ≤ x) →
    ∃ (hs : List Int) (s' : Src), compRun (compF Γ [18] (.name 18) .nop e_h) (zs.map .int) (S20 v2 v3 v4 v5 v6 v7 v8 v9 v10 v11 v12 v13 v14 v15 v16 v17 s) = some (hs.map .int, S20 v2 v3 v4 v5 v6 v7 v8 v9 v10 v11 v12 v13 v14 v15 v16 v17 s') ∧ hs.map absI = zs ∧ ∀ x ∈ hs, x ≠ 0
  | [], s, _ => ⟨[], s, rfl, rfl, by simp⟩
  | z :: zs, s, hz => by
    obtain ⟨g, s1, hg, gm⟩ := ho.run s (.list [.int 1, .int (-1)]) _ rfl (by simp) (by simp)
    have hg' : ∃ sg : Int, g = .int sg ∧ (sg = 1 ∨ sg = -1) := by
      simp only [List.mem_cons, List.not_mem_nil, or_false] at gm
      rcases gm with rfl | rfl
      · exact ⟨1, rfl, .inl rfl⟩
      · exact ⟨-1, rfl, .inr rfl⟩
    obtain ⟨sg, rfl, hsg⟩ := hg'
    obtain ⟨hs, s', e1, e2, e3⟩ := heights_comp ho v2 v3 v4 v5 v6 v7 v8 v9 v10 v11 v12 v13 v14 v15 v16 v17 zs s1 fun x hx => hz x (by simp [hx])
    have hz1 := hz z (by simp)
    have z2 : (2 : Nat) ≤ sizeLine := by decide
    have hsm := sign_small hsg
    refine ⟨sg * z :: hs, s', ?_, ?_, ?_⟩
    · have step : compF Γ [18] (.name 18) .nop e_h (.int z) (S20 v2 v3 v4 v5 v6 v7 v8 v9 v10 v11 v12 v13 v14 v15 v16 v17 s) = some (some (.int (sg * z)), S20 v2 v3 v4 v5 v6 v7 v8 v9 v10 v11 v12 v13 v14 v15 v16 v17 s1) := by
        unfold e_h
        simp [compF, S20, bindT, evalC, evala, evals, frzA, frz, res, evNeg, z2, hg, evOp2, evMul, hsm, hide, unAt]
      rw [List.map_cons]
      simp only [compRun, step, Option.bind_some, e1]
      rfl
    · rw [List.map_cons, e2]
      congr 1
      unfold absI
      rcases hsg with rfl | rfl
      · rw [if_neg (by omega)]; omega
      · rw [if_pos (by omega)]; omega
    · intro x hx
      rcases List.mem_cons.mp hx with rfl | hx
      · rcases hsg with rfl | rfl <;> omega
      · exact e3 x hx
end Pf

set_option maxRecDepth 100000
/-! K59j: a lap of the law, up to the standing row. -/
namespace Pf
open PySem
def s_a : Sm := .set 5 (.callS 8 (.cons (.var 1) (.cons (.cst (.int 5)) (.cons (.cst (.int 8)) .nil))))
def s_b : Sm := .asgN [2, 6] (.cons (.idx (.var 5) (.cst (.int 0))) (.cons (.bi .repr (.cons (.var 5) .nil)) .nil))
def s_c : Sm := .set 7 (.slc .cut (.callS 7 (.cons (.var 1) (.cons (.rngL false (.cst (.int 1)) (.op2 .add (.op2 .mul (.cst (.int 3)) (.var 2)) (.cst (.int 1)))) .nil))) .nop (.var 2))
def s_d : Sm := .set 8 (.bi .tuple (.cons (.comp [18] (.name 18) (.seq (.var 7)) .nop e_h) .nil))
def s_e : Sm := .set 9 (.lst .nil)
def b_due : Sms := (.cons (.set 11 (.op2 .add (.cst (.int 1)) (.bi .len (.cons (.comp [19] (.name 19) (.seq (.var 7)) (.op2 .lt (.var 19) (.bi .abs (.cons (.var 10) .nil))) (.var 19)) .nil)))) (.cons (.app 9 (.ite (.op2 .gt (.var 10) (.cst (.int 0))) (.var 11) (.op2 .sub (.cst (.int 0)) (.var 11)))) .nil))
def s_f : Sm := .for [10, 11] (.name 10) (.seq (.var 8)) b_due
def s_g : Sm := .set 12 (.call 4 (.cons (.var 8) .nil))
theorem evSlc_take {ys : List D} {n : Int} (h0 : 0 ≤ n) : evSlc .cut (.list ys) none (some n) = some (.lst (ys.take n.toNat)) := by
  simp only [evSlc, cutD, HT.sIx]
  have : ¬ n < 0 := by omega
  simp [this]
section
variable {Γ : Nat → Fn} {v2 v3 v4 v5 v6 v9 v10 v11 v12 v13 v14 v15 v16 v17 : Sl} {s : Src}
theorem due_run {zs hs : List Int} {done : List Int} {x : Int} (hz : zs.length ≤ 1000) (hd : done.length ≤ 1000) :
    ∃ y, execs Γ b_due (S20 v2 v3 v4 v5 v6 (.dat (.list (zs.map .int))) (.dat (tI hs)) (.lst (done.map .int)) (.dat (.int x)) .un v12 v13 v14 v15 v16 v17 s)
      = some (.nx (S20 v2 v3 v4 v5 v6 (.dat (.list (zs.map .int))) (.dat (tI hs)) (.lst ((done ++ [((rank zs (absI x) : Int) + 1) * sgn1 x]).map .int)) (.dat (.int x)) y v12 v13 v14 v15 v16 v17 s)) := by
  refine ⟨.dat (.int (1 + (rank zs (absI x) : Int))), ?_⟩
  have hI : evalI Γ (.seq (.var 7)) (S20 v2 v3 v4 v5 v6 (.dat (.list (zs.map .int))) (.dat (tI hs)) (.lst (done.map .int)) (.dat (.int x)) .un v12 v13 v14 v15 v16 v17 s) = some (zs.map .int, S20 v2 v3 v4 v5 v6 (.dat (.list (zs.map .int))) (.dat (tI hs)) (.lst (done.map .int)) (.dat (.int x)) .un v12 v13 v14 v15 v16 v17 s) := by
    simp [evalI, S20, frz, items]
  have hc := comp_intsF (Γ := Γ) (own := [19]) (tg := .name 19) (c := .op2 .lt (.var 19) (.bi .abs (.cons (.var 10) .nil))) (e := .var 19) (fun y => decide (y < absI x)) id hI rfl rfl rfl (fun y hy => by
    have ha : (if x < 0 then -x else x) = absI x := rfl
    by_cases h : y < absI x <;> simp [compF, S20, bindT, evalC, evalv, resAll, res, evBi, ev1, bAbs, ha, evOp2, evCmp, asBool, frz, hide, unAt, h]) (by omega)
  have hlen : (((zs.filter fun y => decide (y < absI x)).map id).map PyData.int).length = rank zs (absI x) := by
    unfold rank
    rw [List.length_map, List.length_map, List.countP_eq_length_filter]
  unfold b_due
  refine (execs_nx (st' := S20 v2 v3 v4 v5 v6 (.dat (.list (zs.map .int))) (.dat (tI hs)) (.lst (done.map .int)) (.dat (.int x)) (.dat (.int (1 + (rank zs (absI x) : Int)))) v12 v13 v14 v15 v16 v17 s) ?_).trans ?_
  · simp only [exec, e_op2, e_cst, e_bi, evalv, hc, Option.bind_some, Option.map_some, resAll, res, evBi, ev1, bLen, items, hlen]
    simp [S20, res, evOp2, evAdd, keep]
  refine (execs_nx (st' := S20 v2 v3 v4 v5 v6 (.dat (.list (zs.map .int))) (.dat (tI hs)) (.lst ((done ++ [((rank zs (absI x) : Int) + 1) * sgn1 x]).map .int)) (.dat (.int x)) (.dat (.int (1 + (rank zs (absI x) : Int)))) v12 v13 v14 v15 v16 v17 s) ?_).trans (by simp only [execs])
  have hz' : done.length < sizeLine := by rw [sizeLine_eq]; omega
  by_cases h : 0 < x
  · simp [S20, exec, isLst, res, evOp2, evCmp, asBool, frz, h, hz', sgn1]
    omega
  · simp [S20, exec, isLst, res, evOp2, evCmp, evInt, asBool, frz, h, hz', sgn1]
    omega
theorem dues_run {zs hs0 : List Int} (hz : zs.length ≤ 1000) : ∀ (hs done : List Int), done.length + hs.length ≤ 1000 →
    forRun [10, 11] (fun d s => (bindT (.name 10) d s).bind fun s => execs Γ b_due s) (hs.map .int) (S20 v2 v3 v4 v5 v6 (.dat (.list (zs.map .int))) (.dat (tI hs0)) (.lst (done.map .int)) .un .un v12 v13 v14 v15 v16 v17 s)
      = some (.nx (S20 v2 v3 v4 v5 v6 (.dat (.list (zs.map .int))) (.dat (tI hs0)) (.lst ((done ++ hs.map fun x => ((rank zs (absI x) : Int) + 1) * sgn1 x).map .int)) .un .un v12 v13 v14 v15 v16 v17 s))
  | [], done, _ => by simp [forRun, clear, unAt, S20]
  | x :: hs, done, hb => by
    simp only [List.length_cons] at hb
    obtain ⟨y, e⟩ := due_run (Γ := Γ) (v2 := v2) (v3 := v3) (v4 := v4) (v5 := v5) (v6 := v6) (v12 := v12) (v13 := v13) (v14 := v14) (v15 := v15) (v16 := v16) (v17 := v17) (s := s) (zs := zs) (hs := hs0) (done := done) (x := x) hz (by omega)
    have ih := dues_run (hs0 := hs0) hz hs (done ++ [((rank zs (absI x) : Int) + 1) * sgn1 x]) (by simp; omega)
    rw [List.map_cons, forRun_nx (st1 := S20 v2 v3 v4 v5 v6 (.dat (.list (zs.map .int))) (.dat (tI hs0)) (.lst ((done ++ [((rank zs (absI x) : Int) + 1) * sgn1 x]).map .int)) (.dat (.int x)) y v12 v13 v14 v15 v16 v17 s) e]
    refine (forRun_congr (st := S20 v2 v3 v4 v5 v6 (.dat (.list (zs.map .int))) (.dat (tI hs0)) (.lst ((done ++ [((rank zs (absI x) : Int) + 1) * sgn1 x]).map .int)) (.dat (.int x)) y v12 v13 v14 v15 v16 v17 s) (st' := S20 v2 v3 v4 v5 v6 (.dat (.list (zs.map .int))) (.dat (tI hs0)) (.lst ((done ++ [((rank zs (absI x) : Int) + 1) * sgn1 x]).map .int)) .un .un v12 v13 v14 v15 v16 v17 s) rfl).trans (ih.trans ?_)
    rw [List.append_assoc]
    rfl
structure HasStand (Γ : Nat → Fn) (p : Nat) : Prop where
  run : ∀ hs : List Int, hs.length ≤ 1000 → (Γ p).runP [tI hs] = some (.dat (tI (standR hs)))
/-- what a lap has made -/
structure LapOk (n : Int) (rs : List Road) (hs : List Int) : Prop where
  n1 : 1 ≤ n ∧ n ≤ 5
  rs : rs.length ≤ 8 ∧ ∀ r ∈ rs, RoadOk n r
  len : (hs.length : Int) = n
  nz : ∀ x ∈ hs, x ≠ 0
  nd : (hs.map absI).Nodup
  sm : ∀ x ∈ hs, x.natAbs ≤ 15
theorem lap1 (hf : HasFrame Γ 8) (hm : HasMixed Γ 7) (ho : HasOf Γ 6) (hst : HasStand Γ 4) (lap : D) (rest : Sms) : ∃ n rs hs zs s', LapOk n rs hs ∧
    execs Γ (.cons s_a (.cons s_b (.cons s_c (.cons s_d (.cons s_e (.cons s_f (.cons s_g rest))))))) (S20 v2 v3 (.dat lap) .un .un .un .un .un .un .un .un .un .un .un .un .un s)
      = execs Γ rest (S20 (.dat (.int n)) v3 (.dat lap) (.dat (frD n rs)) (.dat (.str (frD n rs).shown)) zs (.dat (tI hs)) (.lst ((standR hs).map .int)) .un .un (.dat (tI (standR hs))) .un .un .un .un .un s') := by
  obtain ⟨n, rs, s1, h1, hn, hl, hr⟩ := hf.run s 5 8 (by omega) (by omega) (by omega) (by omega)
  have hsh := shD_frame (n := n) (rs := rs) (by omega) (by omega) hr (by omega)
  obtain ⟨ys, s2, h2, p2⟩ := hm.run s1 (.list (rgD 1 (3 * n + 1))) _ rfl (by unfold rgD; simp; omega)
  rw [rgD_ints] at p2
  obtain ⟨zs0, rfl, p3⟩ := perm_ints p2
  obtain ⟨z1, z2, z3⟩ := sizes_ok (by omega) hn.2 p3
  generalize hzs : zs0.take n.toNat = zs at z1 z2 z3
  obtain ⟨hs, s3, h3, e3, n3⟩ := heights_comp (Γ := Γ) ho (.dat (.int n)) v3 (.dat lap) (.dat (frD n rs)) (.dat (.str (frD n rs).shown)) (.dat (.list (zs.map .int))) .un .un .un .un .un .un .un .un .un .un zs s2 (fun x hx => (z3 x hx).1)
  have hlen : hs.length = n.toNat := by
    have := congrArg List.length e3
    rw [List.length_map] at this
    omega
  refine ⟨n, rs, hs, .dat (.list (zs.map .int)), s3, ⟨hn, ⟨by omega, hr⟩, by omega, n3, by rw [e3]; exact z2, fun x hx => ?_⟩, ?_⟩
  · have h := z3 (absI x) (by rw [← e3]; exact List.mem_map.mpr ⟨x, hx, rfl⟩)
    unfold absI at h
    split at h <;> omega
  have hrg : rgOk 1 (3 * n + 1) = true := by
    unfold rgOk
    simp only [Bool.and_eq_true, decide_eq_true_eq]
    omega
  have s3' : smallI 3 = true := by decide
  refine (execs_nx (st' := S20 v2 v3 (.dat lap) (.dat (frD n rs)) .un .un .un .un .un .un .un .un .un .un .un .un s1) ?_).trans ?_
  · unfold s_a
    simp [S20, exec, evala, frzA, frz, h1, keep]
  refine (execs_nx (st' := S20 (.dat (.int n)) v3 (.dat lap) (.dat (frD n rs)) (.dat (.str (frD n rs).shown)) .un .un .un .un .un .un .un .un .un .un .un s1) ?_).trans ?_
  · unfold s_b
    have hi : evIdx (frD n rs) (.int 0) = some (.int n) := rfl
    have hrp : evBi .repr [frD n rs] = some (.dat (.str (frD n rs).shown)) := hsh.repr
    simp [S20, exec, evalk, evalv, unview, res, resAll, hi, hrp, keeps, keep]
  refine (execs_nx (st' := S20 (.dat (.int n)) v3 (.dat lap) (.dat (frD n rs)) (.dat (.str (frD n rs).shown)) (.lst (zs.map .int)) .un .un .un .un .un .un .un .un .un .un s2) ?_).trans ?_
  · unfold s_c
    have ht := evSlc_take (ys := zs0.map .int) (n := n) (by omega)
    rw [← List.map_take, hzs] at ht
    simp [S20, exec, evalO, evala, frzA, frz, res, evOp2, evAdd, evMul, s3', hrg, h2, ht, keep]
  refine (execs_nx (st' := S20 (.dat (.int n)) v3 (.dat lap) (.dat (frD n rs)) (.dat (.str (frD n rs).shown)) (.dat (.list (zs.map .int))) (.dat (tI hs)) .un .un .un .un .un .un .un .un .un s3) ?_).trans ?_
  · unfold s_d
    have hI : evalI Γ (.seq (.var 7)) (S20 (.dat (.int n)) v3 (.dat lap) (.dat (frD n rs)) (.dat (.str (frD n rs).shown)) (.lst (zs.map .int)) .un .un .un .un .un .un .un .un .un .un s2) = some (zs.map .int, S20 (.dat (.int n)) v3 (.dat lap) (.dat (frD n rs)) (.dat (.str (frD n rs).shown)) (.dat (.list (zs.map .int))) .un .un .un .un .un .un .un .un .un .un s2) := by
      simp [S20, evalI, frz, items]
    have hz : (hs.map PyData.int).length ≤ sizeLine := by rw [List.length_map, sizeLine_eq]; omega
    have hc : eval Γ (.comp [18] (.name 18) (.seq (.var 7)) .nop e_h) (S20 (.dat (.int n)) v3 (.dat lap) (.dat (frD n rs)) (.dat (.str (frD n rs).shown)) (.lst (zs.map .int)) .un .un .un .un .un .un .un .un .un .un s2) = some (.lst (hs.map .int), S20 (.dat (.int n)) v3 (.dat lap) (.dat (frD n rs)) (.dat (.str (frD n rs).shown)) (.dat (.list (zs.map .int))) .un .un .un .un .un .un .un .un .un .un s3) := by
      rw [eval, hI]
      simp only [Option.bind_some]
      have h3' := h3
      unfold compF at h3'
      have hb : ∀ st : Src, hide [18] (frzAll [18] (S20 (.dat (.int n)) v3 (.dat lap) (.dat (frD n rs)) (.dat (.str (frD n rs).shown)) (.dat (.list (zs.map .int))) .un .un .un .un .un .un .un .un .un .un st)) = S20 (.dat (.int n)) v3 (.dat lap) (.dat (frD n rs)) (.dat (.str (frD n rs).shown)) (.dat (.list (zs.map .int))) .un .un .un .un .un .un .un .un .un .un st := fun _ => rfl
      rw [hb, h3']
      simp only [Option.bind_some, hz, if_true]
      rfl
    simp only [exec, e_bi, evalv, hc, Option.bind_some, Option.map_some, resAll, res, evBi, ev1, bTuple, items, keep]
    rfl
  refine (execs_nx (st' := S20 (.dat (.int n)) v3 (.dat lap) (.dat (frD n rs)) (.dat (.str (frD n rs).shown)) (.dat (.list (zs.map .int))) (.dat (tI hs)) (.lst []) .un .un .un .un .un .un .un .un s3) ?_).trans ?_
  · unfold s_e
    have z0 : (0 : Nat) ≤ sizeLine := Nat.zero_le _
    simp [S20, exec, evals, keep]
  have hdue := dues_run (Γ := Γ) (v2 := .dat (.int n)) (v3 := v3) (v4 := .dat lap) (v5 := .dat (frD n rs)) (v6 := .dat (.str (frD n rs).shown)) (v12 := .un) (v13 := .un) (v14 := .un) (v15 := .un) (v16 := .un) (v17 := .un) (s := s3) (zs := zs) (hs0 := hs) (by omega) hs [] (by simp; omega)
  refine (execs_nx (st' := S20 (.dat (.int n)) v3 (.dat lap) (.dat (frD n rs)) (.dat (.str (frD n rs).shown)) (.dat (.list (zs.map .int))) (.dat (tI hs)) (.lst ((standR hs).map .int)) .un .un .un .un .un .un .un .un s3) ?_).trans ?_
  · unfold s_f
    have hI : evalI Γ (.seq (.var 8)) (S20 (.dat (.int n)) v3 (.dat lap) (.dat (frD n rs)) (.dat (.str (frD n rs).shown)) (.dat (.list (zs.map .int))) (.dat (tI hs)) (.lst []) .un .un .un .un .un .un .un .un s3) = some (hs.map .int, S20 (.dat (.int n)) v3 (.dat lap) (.dat (frD n rs)) (.dat (.str (frD n rs).shown)) (.dat (.list (zs.map .int))) (.dat (tI hs)) (.lst []) .un .un .un .un .un .un .un .un s3) := by
      simp [S20, evalI, frz, tI, items]
    simp only [exec, hI, Option.bind_some]
    refine Eq.trans hdue ?_
    unfold standR
    rw [e3]
    rfl
  refine (execs_nx (st' := S20 (.dat (.int n)) v3 (.dat lap) (.dat (frD n rs)) (.dat (.str (frD n rs).shown)) (.dat (.list (zs.map .int))) (.dat (tI hs)) (.lst ((standR hs).map .int)) .un .un (.dat (tI (standR hs))) .un .un .un .un .un s3) ?_)
  unfold s_g
  have hq := hst.run hs (by omega)
  simp [S20, exec, evals, frz, hq, keep]
end
end Pf

set_option maxRecDepth 100000
/-! K59k: a lap of the law, the questions about the standing row. -/
namespace Pf
open PySem
structure HasRow (Γ : Nat → Fn) (p : Nat) : Prop where
  run : ∀ (n : Int) (v : D), 0 ≤ n ∧ n ≤ 1000 → RowV v → ∃ b, RowIs n v b ∧ (Γ p).runP [.int n, v] = some (.dat (.bool b))
structure HasArr (Γ : Nat → Fn) (p : Nat) : Prop where
  run : ∀ (n : Int) (rs : List Road) (hs : List Int), (∀ r ∈ rs, RoadOk hs.length r) → rs.length ≤ 1000 → (Γ p).runP [frD n rs, tI hs] = some (.dat (arrD (rs.map (rdg hs))))
theorem stand_len (hs : List Int) : (standR hs).length = hs.length := by
  unfold standR
  rw [List.length_map]
theorem stand_get {hs : List Int} {i : Nat} (h : i < hs.length) : (standR hs).getD i 0 = ((rank (hs.map absI) (absI (hs.getD i 0)) : Int) + 1) * sgn1 (hs.getD i 0) := by
  unfold standR
  simp [List.getD_eq_getElem?_getD, h]
theorem rdg_sign {n : Int} {rs : List Road} {hs : List Int} (L : LapOk n rs hs) {r : Road} (hr : r ∈ rs) : (rdg (standR hs) r = 0 ↔ rdg hs r = 0) ∧ sgn1 (rdg (standR hs) r) = sgn1 (rdg hs r) := by
  obtain ⟨⟨a0, a1⟩, ⟨b0, b1⟩, hs'⟩ := L.rs.2 r hr
  have hl := L.len
  have ha : r.1.toNat < hs.length := by omega
  have hb : r.2.1.toNat < hs.length := by omega
  have ga : hs.getD r.1.toNat 0 ∈ hs := by
    rw [List.getD_eq_getElem?_getD, List.getElem?_eq_getElem ha]
    exact List.getElem_mem ha
  have gb : hs.getD r.2.1.toNat 0 ∈ hs := by
    rw [List.getD_eq_getElem?_getD, List.getElem?_eq_getElem hb]
    exact List.getElem_mem hb
  unfold rdg
  rw [stand_get ha, stand_get hb]
  exact reading_sign (L.nz _ ga) (L.nz _ gb) (List.mem_map.mpr ⟨_, ga, rfl⟩) (List.mem_map.mpr ⟨_, gb, rfl⟩) hs'
theorem arr_eq {n : Int} {rs : List Road} {hs : List Int} (L : LapOk n rs hs) : arrD (rs.map (rdg (standR hs))) = arrD (rs.map (rdg hs)) := by
  have h1 : (0 ∈ rs.map (rdg (standR hs))) ↔ 0 ∈ rs.map (rdg hs) := by
    simp only [List.mem_map]
    constructor
    · rintro ⟨r, hr, e⟩
      exact ⟨r, hr, (rdg_sign L hr).1.mp e⟩
    · rintro ⟨r, hr, e⟩
      exact ⟨r, hr, (rdg_sign L hr).1.mpr e⟩
  have h2 : (rs.map (rdg (standR hs))).map sgn1 = (rs.map (rdg hs)).map sgn1 := by
    rw [List.map_map, List.map_map]
    exact List.map_congr_left fun r hr => (rdg_sign L hr).2
  unfold arrD
  rw [h2]
  by_cases h : 0 ∈ rs.map (rdg hs)
  · rw [if_pos h, if_pos (h1.mpr h)]
  · rw [if_neg h, if_neg fun q => h (h1.mp q)]
theorem shD_arr {xs : List Int} (hl : xs.length ≤ 1000) : ShD (arrD xs) := by
  unfold arrD
  split
  · exact ⟨rfl, by simp [PyData.bulk]⟩
  · refine shD_tI (fun x hx => ?_) (by simpa using hl)
    obtain ⟨y, _, rfl⟩ := List.mem_map.mp hx
    unfold sgn1
    split <;> decide
theorem stand_small {n : Int} {rs : List Road} {hs : List Int} (L : LapOk n rs hs) : ∀ x ∈ standR hs, x.natAbs ≤ 6 := by
  intro x hx
  unfold standR at hx
  obtain ⟨y, hy, rfl⟩ := List.mem_map.mp hx
  have h1 : rank (hs.map absI) (absI y) ≤ (hs.map absI).length := List.countP_le_length
  have h2 := L.n1
  have h3 := L.len
  rw [List.length_map] at h1
  unfold sgn1
  split <;> omega
def s_h : Sm := (.ite (.or2 (.op2 .ne (.bi .repr (.cons (.var 12) .nil)) (.bi .repr (.cons (.bi .tuple (.cons (.var 9) .nil)) .nil))) (.op2 .isnt (.call 3 (.cons (.var 2) (.cons (.var 12) .nil))) (.cst (.bool true)))) (.cons (.ret (.cst (.bool false))) .nil) .nil)
def s_i : Sm := (.ite (.op2 .ne (.bi .repr (.cons (.call 1 (.cons (.var 5) (.cons (.var 12) .nil))) .nil)) (.bi .repr (.cons (.call 10 (.cons (.var 5) (.cons (.var 8) .nil))) .nil))) (.cons (.ret (.cst (.bool false))) .nil) .nil)
section
variable {Γ : Nat → Fn} {v3 v4 v6 v7 v10 v11 v13 v14 v15 v16 v17 : Sl} {s : Src}
theorem rowV_tI {xs : List Int} (h : xs.length ≤ 1000) : RowV (tI xs) := by
  refine ⟨rfl, fun ds e => ?_⟩
  have : ds = xs.map .int := by
    unfold tI at e
    injection e with e
    exact e.symm
  subst this
  refine ⟨fun d hd => ?_, by simpa using h⟩
  obtain ⟨x, _, rfl⟩ := List.mem_map.mp hd
  rfl
theorem str_ne (x : Str) : evOp2 .ne (.str x) (.str x) = some (.dat (.bool false)) := by
  simp [evOp2, evEq_str, bo]
theorem lap2 {n : Int} {rs : List Road} {hs : List Int} (L : LapOk n rs hs) (h3 : HasRow Γ 3) (h1 : HasArr Γ 1) (h10 : HasArr Γ 10) (rest : Sms) :
    execs Γ (.cons s_h (.cons s_i rest)) (S20 (.dat (.int n)) v3 v4 (.dat (frD n rs)) v6 v7 (.dat (tI hs)) (.lst ((standR hs).map .int)) v10 v11 (.dat (tI (standR hs))) v13 v14 v15 v16 v17 s)
      = execs Γ rest (S20 (.dat (.int n)) v3 v4 (.dat (frD n rs)) v6 v7 (.dat (tI hs)) (.lst ((standR hs).map .int)) v10 v11 (.dat (tI (standR hs))) v13 v14 v15 v16 v17 s) := by
  have hn := L.n1
  have hl := L.len
  have hsl := stand_len hs
  obtain ⟨b, r1, r2⟩ := h3.run n (tI (standR hs)) (by omega) (rowV_tI (by omega))
  have hb : b = true := stand_row L.nz L.nd hl (r1.yes _ rfl)
  subst hb
  have sh1 : evBi .repr [tI (standR hs)] = some (.dat (.str (tI (standR hs)).shown)) := (shD_tI (fun x hx => by have := stand_small L x hx; omega) (by omega)).repr
  refine (execs_nx (st' := S20 (.dat (.int n)) v3 v4 (.dat (frD n rs)) v6 v7 (.dat (tI hs)) (.lst ((standR hs).map .int)) v10 v11 (.dat (tI (standR hs))) v13 v14 v15 v16 v17 s) ?_).trans ?_
  · unfold s_h
    have ht : evBi .tuple [.list ((standR hs).map .int)] = some (.dat (tI (standR hs))) := rfl
    have his : evOp2 .isnt (.bool true) (.bool true) = some (.dat (.bool false)) := rfl
    simp [S20, exec, evalv, evals, resAll, res, sh1, ht, str_ne, his, asBool, frz, r2, execs]
  refine (execs_nx (st' := S20 (.dat (.int n)) v3 v4 (.dat (frD n rs)) v6 v7 (.dat (tI hs)) (.lst ((standR hs).map .int)) v10 v11 (.dat (tI (standR hs))) v13 v14 v15 v16 v17 s) ?_)
  unfold s_i
  have q1 := h1.run n rs (standR hs) (fun r hr => by rw [hsl, hl]; exact L.rs.2 r hr) (by have := L.rs.1; omega)
  have q2 := h10.run n rs hs (fun r hr => by rw [hl]; exact L.rs.2 r hr) (by have := L.rs.1; omega)
  rw [arr_eq L] at q1
  have sh2 : evBi .repr [arrD (rs.map (rdg hs))] = some (.dat (.str (arrD (rs.map (rdg hs))).shown)) := (shD_arr (by rw [List.length_map]; have := L.rs.1; omega)).repr
  simp [S20, exec, evalv, evals, resAll, res, sh2, str_ne, asBool, frz, q1, q2, execs]
end
end Pf

set_option maxRecDepth 100000
/-! K59l: a lap of the law, the values. -/
namespace Pf
open PySem
structure VOk (v : D) : Prop where
  sm : smD 12 v = true
  bk : v.bulk ≤ 1000
  len : ∀ ds, v = .tuple ds → ds.length ≤ 1000
theorem VOk.sh {v : D} (h : VOk v) : ShD v := ⟨h.sm, by have := h.bk; omega⟩
theorem VOk.row {v : D} (h : VOk v) : RowV v := by
  have hs := h.sm
  refine ⟨?_, fun ds e => ⟨fun d hd => ?_, h.len ds e⟩⟩
  · cases v <;> first
      | rfl
      | (simp [smD] at hs)
  · subst e
    have : smD 11 d = true := by
      simp only [smD, List.all_eq_true] at hs
      exact hs d hd
    exact (smD_ok 11 d this).1
theorem bulkAll_app : ∀ a b : List D, PyData.bulkAll (a ++ b) = PyData.bulkAll a + PyData.bulkAll b
  | [], b => by simp [PyData.bulkAll]
  | x :: a, b => by simp [PyData.bulkAll, bulkAll_app a b]; omega
/-- a tuple of short items -/
structure Its (ds : List D) (n : Nat) : Prop where
  sm : ∀ d ∈ ds, smD 11 d = true
  bk : PyData.bulkAll ds ≤ 20 * n
  len : ds.length ≤ n
theorem Its.tup {ds : List D} {n : Nat} (h : Its ds n) (hn : n ≤ 50) : VOk (.tuple ds) where
  sm := by simpa [smD] using h.sm
  bk := by simp only [PyData.bulk]; have := h.bk; omega
  len := fun es e => by cases e; have := h.len; omega
theorem Its.lst {ds : List D} {n : Nat} (h : Its ds n) (hn : n ≤ 50) : VOk (.list ds) where
  sm := by simpa [smD] using h.sm
  bk := by simp only [PyData.bulk]; have := h.bk; omega
  len := fun es e => by cases e
theorem Its.app {a b : List D} {m n : Nat} (h : Its a m) (k : Its b n) : Its (a ++ b) (m + n) where
  sm := fun d hd => (List.mem_append.mp hd).elim (h.sm d) (k.sm d)
  bk := by rw [bulkAll_app]; have := h.bk; have := k.bk; omega
  len := by rw [List.length_append]; have := h.len; have := k.len; omega
theorem its_ints {xs : List Int} {n : Nat} (h : ∀ x ∈ xs, x.natAbs < 100) (hl : xs.length ≤ n) : Its (xs.map .int) n where
  sm := fun d hd => by
    obtain ⟨x, hx, rfl⟩ := List.mem_map.mp hd
    exact decide_eq_true (by have := h x hx; omega)
  bk := by rw [bulk_ints]; omega
  len := by simpa using hl
theorem cut_ints {xs : List Int} {n : Nat} (h : ∀ x ∈ xs, x.natAbs < 100) (hl : xs.length ≤ n) (lo hi : Option Int) : Its (cutD (xs.map .int) lo hi) n := by
  unfold cutD
  rw [← List.map_drop, ← List.map_take]
  refine its_ints (fun x hx => h x (List.mem_of_mem_drop (List.mem_of_mem_take hx))) ?_
  have h1 := List.length_take_le' (HT.sIx (xs.map PyData.int).length (xs.map PyData.int).length hi - HT.sIx (xs.map PyData.int).length 0 lo) (xs.drop (HT.sIx (xs.map PyData.int).length 0 lo))
  have h2 : (xs.drop (HT.sIx (xs.map PyData.int).length 0 lo)).length ≤ xs.length := by rw [List.length_drop]; omega
  omega
/-- what stands in for an item -/
structure Odd (d : D) : Prop where
  sm : smD 11 d = true
  sm2 : smD 12 d = true
  bk : d.bulk ≤ 10
  len : ∀ ds, d = .tuple ds → ds.length ≤ 1000
theorem Odd.it {d : D} (h : Odd d) : Its [d] 1 where
  sm := fun x hx => by
    simp at hx
    subst hx
    exact h.sm
  bk := by simp [PyData.bulkAll]; have := h.bk; omega
  len := by simp
def oddL (n : Int) : List D := [.none, .bool true, .int 0, .int (n + 1), .int (0 - n), .str "1", .tuple [.int 1], .list [.int 1], .int 1]
theorem odd_ok {n : Int} (hn : 1 ≤ n ∧ n ≤ 5) {d : D} (h : d ∈ oddL n) : Odd d := by
  have hi : ∀ i : Int, i.natAbs < 100 → Odd (.int i) := fun i hi => ⟨decide_eq_true (by omega), decide_eq_true (by omega), by simp [PyData.bulk], fun ds e => by cases e⟩
  unfold oddL at h
  simp only [List.mem_cons, List.not_mem_nil, or_false] at h
  rcases h with rfl | rfl | rfl | rfl | rfl | rfl | rfl | rfl | rfl
  · exact ⟨rfl, rfl, by simp [PyData.bulk], fun ds e => by cases e⟩
  · exact ⟨rfl, rfl, by simp [PyData.bulk], fun ds e => by cases e⟩
  · exact hi _ (by decide)
  · exact hi _ (by omega)
  · exact hi _ (by omega)
  · exact ⟨by decide +kernel, by decide +kernel, by simp only [PyData.bulk]; decide +kernel, fun ds e => by cases e⟩
  · exact ⟨rfl, rfl, by simp [PyData.bulk, PyData.bulkAll], fun ds e => by cases e; decide⟩
  · exact ⟨rfl, rfl, by simp [PyData.bulk, PyData.bulkAll], fun ds e => by cases e⟩
  · exact hi _ (by decide)
def b_val : Sms := (.cons (.set 17 (.bi .repr (.cons (.var 16) .nil))) (.cons (.ite (.or2 (.op2 .ne (.bi .repr (.cons (.call 3 (.cons (.var 2) (.cons (.var 16) .nil))) .nil)) (.bi .repr (.cons (.call 12 (.cons (.var 2) (.cons (.var 16) .nil))) .nil))) (.op2 .ne (.bi .repr (.cons (.var 16) .nil)) (.var 17))) (.cons (.ret (.cst (.bool false))) .nil) .nil) .nil))
section
variable {Γ : Nat → Fn} {v3 v4 v5 v6 v7 v8 v9 v10 v11 v12 v13 v14 v15 : Sl} {s : Src}
theorem vals_run {n : Int} (hn : 0 ≤ n ∧ n ≤ 1000) (h3 : HasRow Γ 3) (h12 : HasRow Γ 12) : ∀ vs : List D, (∀ v ∈ vs, VOk v) →
    forRun [16, 17] (fun d s => (bindT (.name 16) d s).bind fun s => execs Γ b_val s) vs (S20 (.dat (.int n)) v3 v4 v5 v6 v7 v8 v9 v10 v11 v12 v13 v14 v15 .un .un s)
      = some (.nx (S20 (.dat (.int n)) v3 v4 v5 v6 v7 v8 v9 v10 v11 v12 v13 v14 v15 .un .un s))
  | [], _ => by simp [forRun, clear, unAt, S20]
  | v :: vs, hv => by
    have hvo := hv v (by simp)
    obtain ⟨b, r1, r2⟩ := h3.run n v hn hvo.row
    obtain ⟨b', q1, q2⟩ := h12.run n v hn hvo.row
    have e : b' = b := q1.uniq r1
    subst e
    have sh : evBi .repr [v] = some (.dat (.str v.shown)) := hvo.sh.repr
    have shb : evBi .repr [.bool b'] = some (.dat (.str (PyData.bool b').shown)) := (show ShD (.bool b') from ⟨rfl, by simp [PyData.bulk]⟩).repr
    have ih := vals_run hn h3 h12 vs fun x hx => hv x (by simp [hx])
    have e : execs Γ b_val (S20 (.dat (.int n)) v3 v4 v5 v6 v7 v8 v9 v10 v11 v12 v13 v14 v15 (.dat v) .un s) = some (.nx (S20 (.dat (.int n)) v3 v4 v5 v6 v7 v8 v9 v10 v11 v12 v13 v14 v15 (.dat v) (.dat (.str v.shown)) s)) := by
      unfold b_val
      refine (execs_nx (st' := S20 (.dat (.int n)) v3 v4 v5 v6 v7 v8 v9 v10 v11 v12 v13 v14 v15 (.dat v) (.dat (.str v.shown)) s) ?_).trans ?_
      · simp [S20, exec, evalv, resAll, res, sh, keep]
      · refine (execs_nx (st' := S20 (.dat (.int n)) v3 v4 v5 v6 v7 v8 v9 v10 v11 v12 v13 v14 v15 (.dat v) (.dat (.str v.shown)) s) ?_).trans (by simp only [execs])
        simp [S20, exec, evalv, evals, resAll, res, frz, r2, q2, sh, shb, str_ne, asBool, execs]
    rw [forRun_nx (st1 := S20 (.dat (.int n)) v3 v4 v5 v6 v7 v8 v9 v10 v11 v12 v13 v14 v15 (.dat v) (.dat (.str v.shown)) s) e]
    exact (forRun_congr (st := S20 (.dat (.int n)) v3 v4 v5 v6 v7 v8 v9 v10 v11 v12 v13 v14 v15 (.dat v) (.dat (.str v.shown)) s) (st' := S20 (.dat (.int n)) v3 v4 v5 v6 v7 v8 v9 v10 v11 v12 v13 v14 v15 .un .un s) rfl).trans ih
def s_j : Sm := .set 13 (.callS 6 (.cons (.var 1) (.cons (.lst (.cons (.cst .none) (.cons (.cst (.bool true)) (.cons (.cst (.int 0)) (.cons (.op2 .add (.var 2) (.cst (.int 1))) (.cons (.op2 .sub (.cst (.int 0)) (.var 2)) (.cons (.cst (.str ("1" : PySem.Str))) (.cons (.tup (.cons (.cst (.int 1)) .nil)) (.cons (.lst (.cons (.cst (.int 1)) .nil)) (.cons (.cst (.int 1)) .nil)))))))))) .nil)))
def s_k : Sm := .set 14 (.callS 5 (.cons (.var 1) (.cons (.var 2) .nil)))
def s_l : Sm := .set 15 (.lst (.cons (.var 12) (.cons (.bi .list (.cons (.var 12) .nil)) (.cons (.slc .cut (.var 12) (.cst (.int 1)) .nop) (.cons (.op2 .add (.var 12) (.tup (.cons (.cst (.int 1)) .nil))) (.cons (.op2 .add (.op2 .add (.slc .cut (.var 12) .nop (.var 14)) (.tup (.cons (.var 13) .nil))) (.slc .cut (.var 12) (.op2 .add (.var 14) (.cst (.int 1))) .nop)) (.cons (.var 13) (.cons (.cst .none) (.cons (.tup .nil) (.cons (.var 8) .nil))))))))))
def i_m : Itx := (.seq (.op2 .add (.var 15) (.lst (.cons (.bi .tuple (.cons (.comp [10] (.name 10) (.seq (.var 12)) .nop (.op2 .sub (.cst (.int 0)) (.var 10))) .nil)) (.cons (.slc .rev (.var 12) .nop .nop) (.cons (.op2 .mul (.tup (.cons (.cst (.int 1)) .nil)) (.var 2)) .nil))))))
def s_m : Sm := .for [16, 17] (.name 16) i_m b_val
def s_n : Sm := (.ite (.op2 .ne (.bi .repr (.cons (.var 5) .nil)) (.var 6)) (.cons (.ret (.cst (.bool false))) .nil) .nil)
def valsL (xs hs : List Int) (odd : D) (k : Int) : List D := [tI xs, .list (xs.map .int), .tuple (cutD (xs.map .int) (some 1) none), .tuple (xs.map .int ++ [.int 1]), .tuple ((cutD (xs.map .int) none (some k) ++ [odd]) ++ cutD (xs.map .int) (some (k + 1)) none), odd, .none, .tuple [], tI hs]
def valsM (xs : List Int) (n : Int) : List D := [.tuple ((xs.map fun x => 0 - x).map .int), .tuple (xs.map PyData.int).reverse, .tuple (List.replicate n.toNat [PyData.int 1]).flatten]
theorem valsL_ok {xs hs : List Int} {odd : D} {k : Int} (h1 : ∀ x ∈ xs, x.natAbs < 99) (h2 : xs.length ≤ 5) (h3 : ∀ x ∈ hs, x.natAbs < 99) (h4 : hs.length ≤ 5) (ho : Odd odd) : ∀ v ∈ valsL xs hs odd k, VOk v := by
  have q1 : ∀ x ∈ xs, x.natAbs < 100 := fun x hx => by have := h1 x hx; omega
  have q3 : ∀ x ∈ hs, x.natAbs < 100 := fun x hx => by have := h3 x hx; omega
  have i1 := its_ints q1 h2
  intro v hv
  unfold valsL at hv
  simp only [List.mem_cons, List.not_mem_nil, or_false] at hv
  rcases hv with rfl | rfl | rfl | rfl | rfl | rfl | rfl | rfl | rfl
  · exact i1.tup (by omega)
  · exact i1.lst (by omega)
  · exact (cut_ints q1 h2 _ _).tup (by omega)
  · exact (i1.app (its_ints (xs := [1]) (n := 1) (by simp) (by simp))).tup (by omega)
  · exact (((cut_ints q1 h2 _ _).app ho.it).app (cut_ints q1 h2 _ _)).tup (by omega)
  · exact ⟨ho.sm2, by have := ho.bk; omega, ho.len⟩
  · exact ⟨rfl, by simp [PyData.bulk], fun ds e => by cases e⟩
  · exact ⟨rfl, by simp [PyData.bulk, PyData.bulkAll], fun ds e => by cases e; simp⟩
  · exact (its_ints q3 h4).tup (by omega)
theorem flat_ones : ∀ m : Nat, (List.replicate m [PyData.int 1]).flatten = (List.replicate m (1 : Int)).map .int
  | 0 => rfl
  | m + 1 => by simp [List.replicate_succ, flat_ones m]
theorem valsM_ok {xs : List Int} {n : Int} (h1 : ∀ x ∈ xs, x.natAbs < 99) (h2 : xs.length ≤ 5) (hn : 0 ≤ n ∧ n ≤ 5) : ∀ v ∈ valsM xs n, VOk v := by
  have q1 : ∀ x ∈ xs, x.natAbs < 100 := fun x hx => by have := h1 x hx; omega
  intro v hv
  unfold valsM at hv
  simp only [List.mem_cons, List.not_mem_nil, or_false] at hv
  rcases hv with rfl | rfl | rfl
  · refine (its_ints (n := 5) (fun x hx => ?_) (by simpa using h2)).tup (by omega)
    obtain ⟨y, hy, rfl⟩ := List.mem_map.mp hx
    have := h1 y hy
    omega
  · rw [← List.map_reverse]
    exact (its_ints (n := 5) (fun x hx => q1 x (by simpa using hx)) (by simpa using h2)).tup (by omega)
  · rw [flat_ones]
    exact (its_ints (n := 5) (fun x hx => by have := List.eq_of_mem_replicate hx; subst this; decide) (by simp; omega)).tup (by omega)
end
end Pf

set_option maxRecDepth 100000
/-! Pf19: the evaluator by simp, statements one by one. -/
namespace Pf
open PySem
section
variable (Γ : Nat → Fn) (st : St)
@[simp] theorem x_set (i : Nat) (e : Ex) : exec Γ (.set i e) st = (eval Γ e st).bind fun p => (keep p.2 i p.1).map .nx := by simp only [exec]
@[simp] theorem x_asgN (is : List Nat) (es : Exs) : exec Γ (.asgN is es) st = (evalk Γ es st).bind fun p => (keeps is p.1 p.2).map .nx := by simp only [exec]
@[simp] theorem x_asgX (ts : List Tgx) (es : Exs) : exec Γ (.asgX ts es) st = (evalk Γ es st).bind fun p => if p.1.length ≤ sizeLine then (storesX Γ ts p.1 p.2).map .nx else none := by simp only [exec]
@[simp] theorem x_asgT (t : Tg) (e : Ex) : exec Γ (.asgT t e) st = (eval Γ e st).bind fun p => (frz p.2 p.1).bind fun x => (bindT t x.1 x.2).map .nx := by simp only [exec]
@[simp] theorem x_app (i : Nat) (e : Ex) : exec Γ (.app i e) st = if isLst (st.get i) then (eval Γ e st).bind fun p => (frz p.2 p.1).bind fun x => match x.2.get i with
    | .lst xs => if xs.length < sizeLine then some (.nx (x.2.put i (.lst (xs ++ [x.1])))) else none
    | _ => none
    else none := by simp only [exec] <;> rfl
@[simp] theorem x_ext (i : Nat) (e : Ex) : exec Γ (.ext i e) st = if isLst (st.get i) then (eval Γ e st).bind fun p => (frz p.2 p.1).bind fun x => match x.2.get i with
    | .lst xs => (listOf x.1).bind fun ys => if xs.length + ys.length ≤ sizeLine then some (.nx (x.2.put i (.lst (xs ++ ys)))) else none
    | _ => none
    else none := by simp only [exec] <;> rfl
@[simp] theorem x_setI (i : Nat) (k e : Ex) : exec Γ (.setI i k e) st = (eval Γ e st).bind fun p => (frz p.2 p.1).bind fun x => (setAt Γ i k x.1 x.2).map .nx := by simp only [exec]
@[simp] theorem x_augN (i : Nat) (o : Op2) (e : Ex) : exec Γ (.augN i o e) st = match st.get i with
    | .dat (.int x) => (eval Γ e st).bind fun p => match p.1 with
      | .dat (.int y) => (augOp o x y).map fun z => .nx (p.2.put i (.dat (.int z)))
      | _ => none
    | _ => none := by simp only [exec] <;> rfl
@[simp] theorem x_augI (i : Nat) (k : Ex) (o : Op2) (e : Ex) : exec Γ (.augI i k o e) st = if isLst (st.get i) then (eval Γ k st).bind fun q => match q.1, q.2.get i with
    | .dat (.int n), .lst xs => (L2.atI xs n).bind fun x => (eval Γ e q.2).bind fun p => match x, p.1, p.2.get i with
      | .int x, .dat (.int y), .lst ys => (augOp o x y).bind fun z => (L2.ixN ys.length n).map fun j => .nx (p.2.put i (.lst (ys.set j (.int z))))
      | _, _, _ => none
    | _, _ => none
    else none := by simp only [exec] <;> rfl
@[simp] theorem x_ite (c : Ex) (t e : Sms) : exec Γ (.ite c t e) st = (asBool (eval Γ c st)).bind fun p => if p.1 then execs Γ t p.2 else execs Γ e p.2 := by simp only [exec]
@[simp] theorem x_ret (e : Ex) : exec Γ (.ret e) st = (eval Γ e st).bind fun p => match p.1 with
    | .view j => (res p.2 (.view j)).bind fun d => match p.2.get j, d with
      | .lst xs, _ => some (.rt (.lst xs) (unAt p.2 j))
      | .dct T kvs, _ => some (.rt (.dct T kvs) (unAt p.2 j))
      | _, d => some (.rt (.dat d) p.2)
    | .src => none
    | r => some (.rt r p.2) := by simp only [exec] <;> rfl
@[simp] theorem x_expr (e : Ex) : exec Γ (.expr e) st = (eval Γ e st).map fun p => .nx p.2 := by simp only [exec]
@[simp] theorem x_brk : exec Γ .brk st = some (.bk st) := by simp only [exec]
@[simp] theorem x_cnt : exec Γ .cnt st = some (.ct st) := by simp only [exec]
@[simp] theorem x_pass : exec Γ .pass st = some (.nx st) := by simp only [exec]
@[simp] theorem xs_nil : execs Γ .nil st = some (.nx st) := by simp only [execs]
@[simp] theorem v_nil : evals Γ .nil st = some ([], st) := by simp only [evals]
@[simp] theorem v_cons (e : Ex) (es : Exs) : evals Γ (.cons e es) st = (eval Γ e st).bind fun p => (frz p.2 p.1).bind fun x => (evals Γ es x.2).map fun q => (x.1 :: q.1, q.2) := by simp only [evals]
@[simp] theorem v_star (e : Ex) (es : Exs) : evals Γ (.star e es) st = (eval Γ e st).bind fun p => (frz p.2 p.1).bind fun x => (items x.1).bind fun xs => (evals Γ es x.2).map fun q => (xs ++ q.1, q.2) := by simp only [evals]
@[simp] theorem va_nil : evala Γ .nil st = some ([], st) := by simp only [evala]
@[simp] theorem va_cons (e : Ex) (es : Exs) : evala Γ (.cons e es) st = (eval Γ e st).bind fun p => (frzA p.2 p.1).bind fun x => (evala Γ es x.2).map fun q => (x.1 :: q.1, q.2) := by simp only [evala]
@[simp] theorem vv_nil : evalv Γ .nil st = some ([], st) := by simp only [evalv]
@[simp] theorem vv_cons (e : Ex) (es : Exs) : evalv Γ (.cons e es) st = (eval Γ e st).bind fun p => (evalv Γ es p.2).map fun q => (p.1 :: q.1, q.2) := by simp only [evalv]
@[simp] theorem vk_nil : evalk Γ .nil st = some ([], st) := by simp only [evalk]
@[simp] theorem vk_cons (e : Ex) (es : Exs) : evalk Γ (.cons e es) st = (eval Γ e st).bind fun p => (unview p.2 p.1).bind fun x => (evalk Γ es x.2).map fun q => (x.1 :: q.1, q.2) := by simp only [evalk]
end
section
variable (st : St)
@[simp] theorem frz_dat (d : D) : frz st (.dat d) = some (d, st) := rfl
@[simp] theorem frz_lst (xs : List D) : frz st (.lst xs) = some (.list xs, st) := rfl
@[simp] theorem frz_view (i : Nat) : frz st (.view i) = match st.get i with
    | .lst xs => some (.list xs, st.put i (.dat (.list xs)))
    | .dct T kvs => some (dctD T kvs, st.put i (.dat (dctD T kvs)))
    | .dat d => some (d, st)
    | _ => none := of_eq_true (eq_self _)
@[simp] theorem frz_dct (T : Bool) (kvs : List (D × D)) : frz st (.dct T kvs) = some (dctD T kvs, st) := rfl
@[simp] theorem frzA_dct (T : Bool) (kvs : List (D × D)) : frzA st (.dct T kvs) = some (dctD T kvs, st) := rfl
@[simp] theorem res_dct (T : Bool) (kvs : List (D × D)) : res st (.dct T kvs) = some (dctD T kvs) := rfl
@[simp] theorem keep_dct (i : Nat) (T : Bool) (kvs : List (D × D)) : keep st i (.dct T kvs) = some (st.put i (.dct T kvs)) := rfl
@[simp] theorem unview_dct (T : Bool) (kvs : List (D × D)) : unview st (.dct T kvs) = some (.dct T kvs, st) := rfl
@[simp] theorem isLst_dct (T : Bool) (kvs : List (D × D)) : isLst (.dct T kvs) = false := rfl
@[simp] theorem isOwn_dct (T : Bool) (kvs : List (D × D)) : isOwn (.dct T kvs) = true := rfl
@[simp] theorem isOwn_lst (xs : List D) : isOwn (.lst xs) = true := rfl
@[simp] theorem isOwn_dat (d : D) : isOwn (.dat d) = false := rfl
@[simp] theorem frzA_src : frzA st .src = some (srcD, st) := rfl
@[simp] theorem frzA_dat (d : D) : frzA st (.dat d) = some (d, st) := rfl
@[simp] theorem frzA_lst (xs : List D) : frzA st (.lst xs) = some (.list xs, st) := rfl
@[simp] theorem frzA_view (i : Nat) : frzA st (.view i) = frz st (.view i) := rfl
@[simp] theorem res_dat (d : D) : res st (.dat d) = some d := rfl
@[simp] theorem res_lst (xs : List D) : res st (.lst xs) = some (.list xs) := rfl
@[simp] theorem res_view (i : Nat) : res st (.view i) = match st.get i with
    | .lst xs => some (.list xs)
    | .dct T kvs => some (dctD T kvs)
    | .dat d => some d
    | _ => none := of_eq_true (eq_self _)
@[simp] theorem resAll_nil : resAll st [] = some [] := rfl
@[simp] theorem resAll_cons (r : Rv) (rs : List Rv) : resAll st (r :: rs) = (res st r).bind fun d => (resAll st rs).map fun ds => d :: ds := rfl
@[simp] theorem keep_dat (i : Nat) (d : D) : keep st i (.dat d) = some (st.put i (.dat d)) := rfl
@[simp] theorem keep_lst (i : Nat) (xs : List D) : keep st i (.lst xs) = some (st.put i (.lst xs)) := rfl
@[simp] theorem keep_view (i j : Nat) : keep st i (.view j) = (frz st (.view j)).map fun p => p.2.put i (.dat p.1) := rfl
@[simp] theorem unview_dat (d : D) : unview st (.dat d) = some (.dat d, st) := rfl
@[simp] theorem unview_lst (xs : List D) : unview st (.lst xs) = some (.lst xs, st) := rfl
@[simp] theorem unview_view (j : Nat) : unview st (.view j) = (frz st (.view j)).map fun x => (.dat x.1, x.2) := rfl
@[simp] theorem keeps_nil : keeps [] [] st = some st := rfl
@[simp] theorem keeps_cons (i : Nat) (is : List Nat) (r : Rv) (rs : List Rv) : keeps (i :: is) (r :: rs) st = (keep st i r).bind fun st => keeps is rs st := rfl
@[simp] theorem asBool_yes (b : Bool) : asBool (some (.dat (.bool b), st)) = some (b, st) := rfl
@[simp] theorem isLst_lst (xs : List D) : isLst (.lst xs) = true := rfl
@[simp] theorem isLst_dat (d : D) : isLst (.dat d) = false := rfl
@[simp] theorem bindT_name (i : Nat) (d : D) : bindT (.name i) d st = some (st.put i (.dat d)) := rfl
@[simp] theorem bindT_tup (ts : List Tg) (ds : List D) : bindT (.tup ts) (.tuple ds) st = bindTs ts ds st := rfl
@[simp] theorem bindTs_nil : bindTs [] [] st = some st := rfl
@[simp] theorem bindTs_cons (t : Tg) (ts : List Tg) (d : D) (ds : List D) : bindTs (t :: ts) (d :: ds) st = (bindT t d st).bind fun st => bindTs ts ds st := rfl
variable (Γ : Nat → Fn)
@[simp] theorem storesX_nil : storesX Γ [] [] st = some st := rfl
@[simp] theorem storesX_cons (t : Tgx) (ts : List Tgx) (r : Rv) (rs : List Rv) : storesX Γ (t :: ts) (r :: rs) st = (storeX Γ t r st).bind fun st => storesX Γ ts rs st := rfl
@[simp] theorem storeX_nm (i : Nat) (r : Rv) : storeX Γ (.nm i) r st = keep st i r := rfl
@[simp] theorem setAt_l (i : Nat) (k : Ex) (d : D) : setAt Γ i k d st = if isOwn (st.get i) then (eval Γ k st).bind fun q => match q.2.get i with
    | .lst xs => (match q.1 with
      | .dat (.int n) => (L2.ixN xs.length n).map fun j => q.2.put i (.lst (xs.set j d))
      | _ => none)
    | .dct T kvs => (match q.1 with
      | .dat y => if keyOk T y && decide (kvs.length < sizeLine) then some (q.2.put i (.dct T (dput kvs y d))) else none
      | _ => none)
    | _ => none
    else none := of_eq_true (eq_self _)
@[simp] theorem storeX_ix (i : Nat) (k : Ex) (r : Rv) : storeX Γ (.ix i k) r st = (frz st r).bind fun x => setAt Γ i k x.1 x.2 := rfl
end
@[simp] theorem o_add (a b : D) : evOp2 .add a b = evAdd a b := of_eq_true (eq_self _)
@[simp] theorem o_mul (a b : D) : evOp2 .mul a b = evMul a b := of_eq_true (eq_self _)
@[simp] theorem o_sub (i j : Int) : evOp2 .sub (.int i) (.int j) = some (.dat (.int (i - j))) := of_eq_true (eq_self _)
@[simp] theorem o_addI (i j : Int) : evAdd (.int i) (.int j) = some (.dat (.int (i + j))) := of_eq_true (eq_self _)
@[simp] theorem o_mulI (i j : Int) : evMul (.int i) (.int j) = if smallI i || smallI j then some (.dat (.int (i * j))) else none := of_eq_true (eq_self _)
@[simp] theorem o_fdiv (i j : Int) : evOp2 .fdiv (.int i) (.int j) = if divOk i j then some (.dat (.int (i.fdiv j))) else none := of_eq_true (eq_self _)
@[simp] theorem o_mod (i j : Int) : evOp2 .mod (.int i) (.int j) = if decide (j ≠ 0) then some (.dat (.int (i.fmod j))) else none := of_eq_true (eq_self _)
@[simp] theorem o_shl (i j : Int) : evOp2 .shl (.int i) (.int j) = if shlOk i j then some (.dat (.int (i * 2 ^ j.toNat))) else none := of_eq_true (eq_self _)
@[simp] theorem o_lt (i j : Int) : evOp2 .lt (.int i) (.int j) = some (.dat (.bool (decide (i < j)))) := of_eq_true (eq_self _)
@[simp] theorem o_le (i j : Int) : evOp2 .le (.int i) (.int j) = some (.dat (.bool (decide (i ≤ j)))) := of_eq_true (eq_self _)
@[simp] theorem o_gt (i j : Int) : evOp2 .gt (.int i) (.int j) = some (.dat (.bool (decide (j < i)))) := of_eq_true (eq_self _)
@[simp] theorem o_ge (i j : Int) : evOp2 .ge (.int i) (.int j) = some (.dat (.bool (decide (j ≤ i)))) := of_eq_true (eq_self _)
@[simp] theorem o_eq (a b : D) : evOp2 .eq a b = (evEq a b).map fun b => .dat (.bool b) := of_eq_true (eq_self _)
@[simp] theorem o_ne (a b : D) : evOp2 .ne a b = (evEq a b).map fun b => .dat (.bool (!b)) := by
  show bo _ = _
  cases evEq a b <;> rfl
@[simp] theorem o_in (a b : D) : evOp2 .isin a b = (evIn a b).map fun b => .dat (.bool b) := of_eq_true (eq_self _)
@[simp] theorem o_nin (a b : D) : evOp2 .notin a b = (evIn a b).map fun b => .dat (.bool (!b)) := by
  show bo _ = _
  cases evIn a b <;> rfl
@[simp] theorem o_is (a b : D) : evOp2 .is_ a b = (evIs a b).map fun b => .dat (.bool b) := of_eq_true (eq_self _)
@[simp] theorem o_isnt (a b : D) : evOp2 .isnt a b = (evIs a b).map fun b => .dat (.bool (!b)) := by
  show bo _ = _
  cases evIs a b <;> rfl
@[simp] theorem o_neg (i : Int) : evNeg (.int i) = some (.dat (.int (-i))) := of_eq_true (eq_self _)
@[simp] theorem items_tup (xs : List D) : items (.tuple xs) = some xs := rfl
@[simp] theorem items_lst (xs : List D) : items (.list xs) = some xs := rfl
@[simp] theorem listOf_lst (xs : List D) : listOf (.list xs) = some xs := rfl
@[simp] theorem b_len (d : D) : evBi .len [d] = bLen d := of_eq_true (eq_self _)
@[simp] theorem b_lenT (xs : List D) : bLen (.tuple xs) = some (.dat (.int xs.length)) := of_eq_true (eq_self _)
@[simp] theorem b_lenL (xs : List D) : bLen (.list xs) = some (.dat (.int xs.length)) := of_eq_true (eq_self _)
@[simp] theorem b_abs (i : Int) : evBi .abs [.int i] = some (.dat (.int (if i < 0 then -i else i))) := of_eq_true (eq_self _)
@[simp] theorem b_int (i : Int) : evBi .int [.int i] = some (.dat (.int i)) := of_eq_true (eq_self _)
@[simp] theorem b_intB (b : Bool) : evBi .int [.bool b] = some (.dat (.int (if b then 1 else 0))) := of_eq_true (eq_self _)
@[simp] theorem b_sum (d : D) : evBi .sum [d] = bSum d := of_eq_true (eq_self _)
@[simp] theorem b_min (d : D) : evBi .min1 [d] = bMin d := of_eq_true (eq_self _)
@[simp] theorem b_max (d : D) : evBi .max1 [d] = bMax d := of_eq_true (eq_self _)
@[simp] theorem b_min2 (i j : Int) : evBi .min2 [.int i, .int j] = some (.dat (.int (if j < i then j else i))) := of_eq_true (eq_self _)
@[simp] theorem b_max2 (i j : Int) : evBi .max2 [.int i, .int j] = some (.dat (.int (if j > i then j else i))) := of_eq_true (eq_self _)
@[simp] theorem b_sorted (d : D) : evBi .sorted [d] = bSorted d := of_eq_true (eq_self _)
@[simp] theorem b_list (d : D) : evBi .list [d] = bList d := of_eq_true (eq_self _)
@[simp] theorem b_listT (xs : List D) : bList (.tuple xs) = some (.lst xs) := of_eq_true (eq_self _)
@[simp] theorem b_listL (xs : List D) : bList (.list xs) = some (.lst xs) := of_eq_true (eq_self _)
@[simp] theorem b_tuple (d : D) : evBi .tuple [d] = bTuple d := of_eq_true (eq_self _)
@[simp] theorem b_tupleT (xs : List D) : bTuple (.tuple xs) = some (.dat (.tuple xs)) := of_eq_true (eq_self _)
@[simp] theorem b_tupleL (xs : List D) : bTuple (.list xs) = some (.dat (.tuple xs)) := of_eq_true (eq_self _)
@[simp] theorem b_all (d : D) : evBi .all [d] = bAll d := of_eq_true (eq_self _)
@[simp] theorem b_repr (d : D) : evBi .repr [d] = bRepr d := of_eq_true (eq_self _)
@[simp] theorem b_isT (d : D) : evBi .isTup [d] = bIs "tuple" d := of_eq_true (eq_self _)
@[simp] theorem b_isI (d : D) : evBi .isInt [d] = bIs "int" d := of_eq_true (eq_self _)
@[simp] theorem b_isB (d : D) : evBi .isBool [d] = bIs "bool" d := of_eq_true (eq_self _)
@[simp] theorem b_isS (d : D) : evBi .isStr [d] = bIs "str" d := of_eq_true (eq_self _)
@[simp] theorem idx_fr0 (n : Int) (rs : List Road) : evIdx (frD n rs) (.int 0) = some (.int n) := rfl
@[simp] theorem idx_fr1 (n : Int) (rs : List Road) : evIdx (frD n rs) (.int 1) = some (.tuple (rs.map rdD)) := rfl
@[simp] theorem items_tI (xs : List Int) : items (tI xs) = some (xs.map .int) := rfl
@[simp] theorem len_tI (xs : List Int) : bLen (tI xs) = some (.dat (.int xs.length)) := by simp [tI]
@[simp] theorem tuple_tI (xs : List Int) : bTuple (tI xs) = some (.dat (tI xs)) := rfl
@[simp] theorem list_tI (xs : List Int) : bList (tI xs) = some (.lst (xs.map .int)) := rfl
@[simp] theorem z0_le : (0 : Nat) ≤ sizeLine := Nat.zero_le _
@[simp] theorem z1_le : (1 : Nat) ≤ sizeLine := by decide
@[simp] theorem z2_le : (2 : Nat) ≤ sizeLine := by decide
@[simp] theorem z3_le : (3 : Nat) ≤ sizeLine := by decide
@[simp] theorem z4_le : (4 : Nat) ≤ sizeLine := by decide
@[simp] theorem z5_le : (5 : Nat) ≤ sizeLine := by decide
@[simp] theorem z6_le : (6 : Nat) ≤ sizeLine := by decide
@[simp] theorem z7_le : (7 : Nat) ≤ sizeLine := by decide
@[simp] theorem z8_le : (8 : Nat) ≤ sizeLine := by decide
@[simp] theorem z9_le : (9 : Nat) ≤ sizeLine := by decide
@[simp] theorem z10_le : (10 : Nat) ≤ sizeLine := by decide
section
variable (Γ : Nat → Fn) (st : St)
@[simp] theorem eO_nop : evalO Γ .nop st = some (none, st) := by simp only [evalO]
@[simp] theorem eO_var (i : Nat) : evalO Γ (.var i) st = match eval Γ (.var i) st with
    | some (.dat (.int i), st) => some (some i, st)
    | _ => none := by simp only [evalO] <;> rfl
@[simp] theorem eO_cst (d : D) : evalO Γ (.cst d) st = match eval Γ (.cst d) st with
    | some (.dat (.int i), st) => some (some i, st)
    | _ => none := by simp only [evalO] <;> rfl
@[simp] theorem eO_op2 (o : Op2) (a b : Ex) : evalO Γ (.op2 o a b) st = match eval Γ (.op2 o a b) st with
    | some (.dat (.int i), st) => some (some i, st)
    | _ => none := by simp only [evalO] <;> rfl
@[simp] theorem eO_neg (a : Ex) : evalO Γ (.neg a) st = match eval Γ (.neg a) st with
    | some (.dat (.int i), st) => some (some i, st)
    | _ => none := by simp only [evalO] <;> rfl
@[simp] theorem eO_bi (b : Bi) (es : Exs) : evalO Γ (.bi b es) st = match eval Γ (.bi b es) st with
    | some (.dat (.int i), st) => some (some i, st)
    | _ => none := by simp only [evalO] <;> rfl
@[simp] theorem eO_call (f : Nat) (es : Exs) : evalO Γ (.call f es) st = match eval Γ (.call f es) st with
    | some (.dat (.int i), st) => some (some i, st)
    | _ => none := by simp only [evalO] <;> rfl
@[simp] theorem eO_callS (f : Nat) (es : Exs) : evalO Γ (.callS f es) st = match eval Γ (.callS f es) st with
    | some (.dat (.int i), st) => some (some i, st)
    | _ => none := by simp only [evalO] <;> rfl
@[simp] theorem eO_idx (a b : Ex) : evalO Γ (.idx a b) st = match eval Γ (.idx a b) st with
    | some (.dat (.int i), st) => some (some i, st)
    | _ => none := by simp only [evalO] <;> rfl
@[simp] theorem eO_ite (c a b : Ex) : evalO Γ (.ite c a b) st = match eval Γ (.ite c a b) st with
    | some (.dat (.int i), st) => some (some i, st)
    | _ => none := by simp only [evalO] <;> rfl
@[simp] theorem eO_index (a b : Ex) : evalO Γ (.index a b) st = match eval Γ (.index a b) st with
    | some (.dat (.int i), st) => some (some i, st)
    | _ => none := by simp only [evalO] <;> rfl
end
/-! ### statements, one by one -/
/-- the rest of the statements goes on to P -/
def Nx (Γ : Nat → Fn) (ss : Sms) (st : St) (P : Out → Prop) : Prop := ∃ o, execs Γ ss st = some o ∧ P o
section
variable {Γ : Nat → Fn} {s : Sm} {ss : Sms} {st st1 : St} {P : Out → Prop}
theorem nx_step (h : exec Γ s st = some (.nx st1)) (k : Nx Γ ss st1 P) : Nx Γ (.cons s ss) st P := by
  obtain ⟨o, e, p⟩ := k
  exact ⟨o, (execs_nx h).trans e, p⟩
theorem nx_rt {r : Rv} (h : exec Γ s st = some (.rt r st1)) (k : P (.rt r st1)) : Nx Γ (.cons s ss) st P := ⟨_, execs_rt h, k⟩
theorem nx_nil (k : P (.nx st)) : Nx Γ .nil st P := ⟨_, xs_nil Γ st, k⟩
/-- if the test says no -/
theorem nx_no {c : Ex} {t e : Sms} (h : eval Γ c st = some (.dat (.bool false), st1)) (k : Nx Γ e st1 fun o => match o with | .nx st2 => Nx Γ ss st2 P | o => P o) : Nx Γ (.cons (.ite c t e) ss) st P := by
  obtain ⟨o, e1, p⟩ := k
  cases o with
  | nx st2 =>
    obtain ⟨o2, e2, p2⟩ := p
    refine ⟨o2, (execs_nx (st' := st2) ?_).trans e2, p2⟩
    simp [h, e1]
  | rt r st2 => exact ⟨_, by simp only [execs, x_ite, h, asBool_yes, Option.bind_some, Bool.false_eq_true, if_false, e1], p⟩
  | bk st2 => exact ⟨_, by simp only [execs, x_ite, h, asBool_yes, Option.bind_some, Bool.false_eq_true, if_false, e1], p⟩
  | ct st2 => exact ⟨_, by simp only [execs, x_ite, h, asBool_yes, Option.bind_some, Bool.false_eq_true, if_false, e1], p⟩
theorem nx_skip {c : Ex} {t : Sms} (h : eval Γ c st = some (.dat (.bool false), st1)) (k : Nx Γ ss st1 P) : Nx Γ (.cons (.ite c t .nil) ss) st P := nx_no h (nx_nil k)
theorem nx_yes {c : Ex} {t e : Sms} (h : eval Γ c st = some (.dat (.bool true), st1)) (k : Nx Γ t st1 fun o => match o with | .nx st2 => Nx Γ ss st2 P | o => P o) : Nx Γ (.cons (.ite c t e) ss) st P := by
  obtain ⟨o, e1, p⟩ := k
  cases o with
  | nx st2 =>
    obtain ⟨o2, e2, p2⟩ := p
    refine ⟨o2, (execs_nx (st' := st2) ?_).trans e2, p2⟩
    simp [h, e1]
  | rt r st2 => exact ⟨_, by simp only [execs, x_ite, h, asBool_yes, Option.bind_some, if_true, e1], p⟩
  | bk st2 => exact ⟨_, by simp only [execs, x_ite, h, asBool_yes, Option.bind_some, if_true, e1], p⟩
  | ct st2 => exact ⟨_, by simp only [execs, x_ite, h, asBool_yes, Option.bind_some, if_true, e1], p⟩
end
theorem ret_true {Γ : Nat → Fn} {ss : Sms} {st : St} (h : Nx Γ ss st fun o => ∃ st', o = .rt (.dat (.bool true)) st') : ∃ st', execs Γ ss st = some (.rt (.dat (.bool true)) st') := by
  obtain ⟨o, e, st', rfl⟩ := h
  exact ⟨st', e⟩
/-- what a body does at each turn -/
def Turns (Γ : Nat → Fn) (tmp : List Nat) (tg : Tg) (body : Sms) (ds : List D) (I : Nat → St → Prop) : Prop :=
  ∀ (i : Nat) (d : D) (s0 : St), ds[i]? = some d → I i s0 → ∃ s1, bindT tg d s0 = some s1 ∧ Nx Γ body s1 fun o => ∃ s2, (o = .nx s2 ∨ o = .ct s2) ∧ I (i + 1) (clear tmp s2)
theorem turns_run {Γ : Nat → Fn} {tmp : List Nat} {tg : Tg} {body : Sms} {ds : List D} {I : Nat → St → Prop} (h : Turns Γ tmp tg body ds I) : ∀ (n i : Nat) (st : St), ds.length - i = n → i ≤ ds.length → I i (clear tmp st) →
    ∃ st', forRun tmp (fun d s => (bindT tg d s).bind fun s => execs Γ body s) (ds.drop i) st = some (.nx st') ∧ I ds.length st' := by
  intro n
  induction n with
  | zero =>
    intro i st hn hi hI
    have : i = ds.length := by omega
    subst this
    rw [List.drop_length]
    exact ⟨_, rfl, hI⟩
  | succ n ih =>
    intro i st hn hi hI
    have hlt : i < ds.length := by omega
    obtain ⟨s1, e1, o, e2, s2, e3, hI2⟩ := h i ds[i] (clear tmp st) (List.getElem?_eq_getElem hlt) hI
    obtain ⟨st', e4, hI3⟩ := ih (i + 1) s2 (by omega) hlt hI2
    refine ⟨st', ?_, hI3⟩
    rw [List.drop_eq_getElem_cons hlt]
    rcases e3 with rfl | rfl <;> simp only [forRun, e1, Option.bind_some, e2] <;> exact e4
/-- a loop by an invariant: I of the turns done, at states where the temporaries are let go -/
theorem nx_loop {Γ : Nat → Fn} {ss : Sms} {st st0 : St} {P : Out → Prop} {tmp : List Nat} {tg : Tg} {it : Itx} {body : Sms} {ds : List D} (I : Nat → St → Prop) (hI : evalI Γ it st = some (ds, st0)) (h0 : I 0 (clear tmp st0)) (hs : Turns Γ tmp tg body ds I)
    (k : ∀ st', I ds.length st' → Nx Γ ss st' P) : Nx Γ (.cons (.for tmp tg it body) ss) st P := by
  obtain ⟨st', e, h⟩ := turns_run hs _ 0 st0 rfl (Nat.zero_le _) h0
  rw [List.drop_zero] at e
  refine nx_step ?_ (k st' h)
  simp only [exec, hI, Option.bind_some]
  exact e
/-! ### comprehensions over told items -/
section
variable {Γ : Nat → Fn} {own : List Nat} {tg : Tg} {it : Itx} {c e : Ex} {st st1 : St} {α : Type}
theorem comp_enc {xs : List α} {enc : α → D} (h : α → D) (hI : evalI Γ it st = some (xs.map enc, st1)) (hb : frzAll own st1 = st1) (hh : hide own st1 = st1) (hk : back own st1 st1 = st1)
    (hf : ∀ x ∈ xs, compF Γ own tg c e (enc x) st1 = some (some (h x), st1)) (hl : xs.length ≤ 16777216) : eval Γ (.comp own tg it c e) st = some (.lst (xs.map h), st1) := by
  rw [eval, hI]
  simp only [Option.bind_some, hb, hh]
  have h1 : ∀ ys : List α, (∀ x ∈ ys, x ∈ xs) → compRun (compF Γ own tg c e) (ys.map enc) st1 = some (ys.map h, st1) := by
    intro ys
    induction ys with
    | nil => intro _; rfl
    | cons y ys ih =>
      intro hy
      simp only [List.map_cons, compRun, hf y (hy y (by simp)), Option.bind_some, ih fun x hx => hy x (by simp [hx])]
  have hz : (xs.map h).length ≤ sizeLine := by rw [List.length_map, sizeLine_eq]; omega
  have h2 : compRun (fun d s => (bindT tg d s).bind fun s => (evalC Γ c s).bind fun b => if b.1 then (eval Γ e b.2).bind fun r => (frz r.2 r.1).map fun x => (some x.1, hide own x.2) else some (none, hide own b.2)) (xs.map enc) st1 = some (xs.map h, st1) := h1 xs fun _ h => h
  rw [h2]
  simp only [Option.bind_some, hz, if_true, hk]
theorem comp_encF {xs : List α} {enc : α → D} (p : α → Bool) (h : α → D) (hI : evalI Γ it st = some (xs.map enc, st1)) (hb : frzAll own st1 = st1) (hh : hide own st1 = st1) (hk : back own st1 st1 = st1)
    (hf : ∀ x ∈ xs, compF Γ own tg c e (enc x) st1 = some (if p x then some (h x) else none, st1)) (hl : xs.length ≤ 16777216) : eval Γ (.comp own tg it c e) st = some (.lst ((xs.filter p).map h), st1) := by
  rw [eval, hI]
  simp only [Option.bind_some, hb, hh]
  have h1 : ∀ ys : List α, (∀ x ∈ ys, x ∈ xs) → compRun (compF Γ own tg c e) (ys.map enc) st1 = some ((ys.filter p).map h, st1) := by
    intro ys
    induction ys with
    | nil => intro _; rfl
    | cons y ys ih =>
      intro hy
      simp only [List.map_cons, compRun, hf y (hy y (by simp)), Option.bind_some, ih fun x hx => hy x (by simp [hx])]
      by_cases q : p y <;> simp [q]
  have hz : ((xs.filter p).map h).length ≤ sizeLine := by
    have := List.length_filter_le p xs
    rw [List.length_map, sizeLine_eq]; omega
  have h2 : compRun (fun d s => (bindT tg d s).bind fun s => (evalC Γ c s).bind fun b => if b.1 then (eval Γ e b.2).bind fun r => (frz r.2 r.1).map fun x => (some x.1, hide own x.2) else some (none, hide own b.2)) (xs.map enc) st1 = some ((xs.filter p).map h, st1) := h1 xs fun _ h => h
  rw [h2]
  simp only [Option.bind_some, hz, if_true, hk]
/-- a comprehension that draws: only what is true of each item is told -/
theorem comp_draw {xs : List α} {enc : α → D} (P : α → D → Prop) (Sx : Src → St) (s : Src) (hI : evalI Γ it st = some (xs.map enc, Sx s)) (hb : ∀ s, frzAll own (Sx s) = Sx s) (hh : ∀ s, hide own (Sx s) = Sx s) (hk : ∀ s s', back own (Sx s) (Sx s') = Sx s')
    (hf : ∀ x ∈ xs, ∀ s, ∃ d s', compF Γ own tg c e (enc x) (Sx s) = some (some d, Sx s') ∧ P x d) (hl : xs.length ≤ 16777216) : ∃ ds s', eval Γ (.comp own tg it c e) st = some (.lst ds, Sx s') ∧ ds.length = xs.length ∧ ∀ (i : Nat) (x : α) (d : D), xs[i]? = some x → ds[i]? = some d → P x d := by
  have h1 : ∀ (ys : List α) (s : Src), (∀ x ∈ ys, x ∈ xs) → ∃ ds s', compRun (compF Γ own tg c e) (ys.map enc) (Sx s) = some (ds, Sx s') ∧ ds.length = ys.length ∧ ∀ (i : Nat) (x : α) (d : D), ys[i]? = some x → ds[i]? = some d → P x d := by
    intro ys
    induction ys with
    | nil => intro s _; exact ⟨[], s, rfl, rfl, fun i x d h => by simp at h⟩
    | cons y ys ih =>
      intro s hy
      obtain ⟨d, s1, e1, p1⟩ := hf y (hy y (by simp)) s
      obtain ⟨ds, s2, e2, l2, p2⟩ := ih s1 fun x hx => hy x (by simp [hx])
      refine ⟨d :: ds, s2, ?_, by simp [l2], fun i x d' hx hd => ?_⟩
      · simp only [List.map_cons, compRun, e1, Option.bind_some, e2]
      · cases i with
        | zero => simp at hx hd; subst hx hd; exact p1
        | succ i => exact p2 i x d' (by simpa using hx) (by simpa using hd)
  obtain ⟨ds, s', e1, l1, p1⟩ := h1 xs s fun _ h => h
  refine ⟨ds, s', ?_, l1, p1⟩
  rw [eval, hI]
  simp only [Option.bind_some, hb, hh]
  have hz : ds.length ≤ sizeLine := by rw [l1, sizeLine_eq]; omega
  have h2 : compRun (fun d s => (bindT tg d s).bind fun s => (evalC Γ c s).bind fun b => if b.1 then (eval Γ e b.2).bind fun r => (frz r.2 r.1).map fun x => (some x.1, hide own x.2) else some (none, hide own b.2)) (xs.map enc) (Sx s) = some (ds, Sx s') := e1
  rw [h2]
  simp only [Option.bind_some, hz, if_true, hk]
end
theorem zip_enc {α β : Type} (f : α → D) (g : β → D) : ∀ (xs : List α) (ys : List β), (((xs.map f).zip (ys.map g)).map fun z => PyData.tuple [z.1, z.2]) = (xs.zip ys).map fun z => .tuple [f z.1, g z.2]
  | [], _ => by simp
  | _ :: _, [] => by simp
  | x :: xs, y :: ys => by simp only [List.map_cons, List.zip_cons_cons, zip_enc f g xs ys]
theorem zipS_enc {α β : Type} {f : α → D} {g : β → D} {a b : D} {xs : List α} {ys : List β} (ha : items a = some (xs.map f)) (hb : items b = some (ys.map g)) (hl : xs.length = ys.length) : zipOf true a b = some ((xs.zip ys).map fun z => .tuple [f z.1, g z.2]) := by
  simp only [zipOf, if_true, ha, hb, Option.bind_some, List.length_map, hl, zip_enc]
theorem zipT_enc {α β : Type} {f : α → D} {g : β → D} {xs : List α} {ys : List β} : zipOf false (.tuple (xs.map f)) (.tuple (ys.map g)) = some ((xs.zip ys).map fun z => .tuple [f z.1, g z.2]) := by
  simp only [zipOf, Bool.false_eq_true, if_false, zip_enc]
theorem zipL_enc {α β : Type} {f : α → D} {g : β → D} {xs : List α} {ys : List β} : zipOf false (.list (xs.map f)) (.list (ys.map g)) = some ((xs.zip ys).map fun z => .tuple [f z.1, g z.2]) := by
  simp only [zipOf, Bool.false_eq_true, if_false, zip_enc]
theorem flat_one (d : D) : ∀ m : Nat, (List.replicate m [d]).flatten = List.replicate m d
  | 0 => rfl
  | m + 1 => by rw [List.replicate_succ, List.flatten_cons, flat_one d m, List.replicate_succ]; rfl
theorem mul_rep (d : D) {m : Nat} (h : m ≤ 1000000) : evMul (.list [d]) (.int m) = some (.lst (List.replicate m d)) := by
  have : repOk [d].length (m : Int) = true := by
    unfold repOk
    rw [sizeLine_eq, Int.toNat_natCast]
    have e : [d].length = 1 := rfl
    rw [e]
    simp only [Bool.and_eq_true, decide_eq_true_eq]
    omega
  show (if repOk [d].length (m : Int) = true then some (Rv.lst (List.replicate (m : Int).toNat [d]).flatten) else none) = _
  rw [if_pos this, Int.toNat_natCast, flat_one]
theorem mul_repT (d : D) {m : Nat} (h : m ≤ 1000) : evMul (.tuple [d]) (.int m) = some (.dat (.tuple (List.replicate m d))) := by
  have : repOkT [d].length (m : Int) = true := by
    unfold repOkT
    have e : [d].length = 1 := rfl
    rw [e]
    simp only [Bool.and_eq_true, decide_eq_true_eq]
    omega
  show (if repOkT [d].length (m : Int) = true then some (Rv.dat (.tuple (List.replicate (m : Int).toNat [d]).flatten)) else none) = _
  rw [if_pos this, Int.toNat_natCast, flat_one]
theorem rep_ints (i : Int) (m : Nat) : List.replicate m (PyData.int i) = (List.replicate m i).map .int := by simp
end Pf

set_option maxRecDepth 100000
/-! K58a: the defs of k58. -/
namespace Pf
open PySem
/-! is it a sign, are they arrows -/
def sgD : D → Bool
  | .int i => i == 1 || i == -1
  | _ => false
def b_is_sign : Sms := (.cons (.ret (.and2 (.bi .isInt (.cons (.var 0) .nil)) (.and2 (.not (.bi .isBool (.cons (.var 0) .nil))) (.op2 .isin (.var 0) (.tup (.cons (.cst (.int 1)) (.cons (.neg (.cst (.int 1))) .nil))))))) .nil)
theorem evIn_sg (i : Int) : evIn (.int i) (.tuple [.int 1, .int (-1)]) = some (i == 1 || i == -1) := by
  have := evIn_int i [1, -1]
  simp only [List.map_cons, List.map_nil] at this
  rw [this]
  simp
  congr 1 <;> rfl
theorem two_le : (2 : Nat) ≤ sizeLine := by decide
theorem is_sign_run {Γ : Nat → Fn} {d : D} (h : (tyName d).isSome = true) : runP Γ 0 b_is_sign [d] = some (.dat (.bool (sgD d))) := by
  have ha : argSl d = .dat d := by cases d <;> first | rfl | cases h
  refine runP_rt (st := ⟨[.dat d], none⟩) ?_
  show execs Γ b_is_sign ⟨[argSl d], none⟩ = _
  rw [ha]
  unfold b_is_sign
  refine execs_rt ?_
  cases d <;> simp [bIs, tyName, sgD, two_le, evIn_sg]
  · cases h
structure HasSign (Γ : Nat → Fn) (p : Nat) : Prop where
  run : ∀ d, (tyName d).isSome = true → (Γ p).runP [d] = some (.dat (.bool (sgD d)))
/-- are they arrows of many roads -/
def arB (m : Nat) : D → Bool
  | .tuple ds => decide (ds.length = m) && ds.all sgD
  | _ => false
def c_is_arrows_1 (p : Nat) : Ex := (.comp [2] (.name 2) (.seq (.var 1)) .nop (.call p (.cons (.var 2) .nil)))
def b_is_arrows (p : Nat) : Sms := (.cons (.ret (.and2 (.bi .isTup (.cons (.var 1) .nil)) (.and2 (.op2 .eq (.bi .len (.cons (.var 1) .nil)) (.bi .len (.cons (.idx (.var 0) (.cst (.int 1))) .nil))) (.bi .all (.cons (c_is_arrows_1 p) .nil))))) .nil)
theorem boolsOf_map {α : Type} (f : α → Bool) : ∀ xs : List α, boolsOf (xs.map fun x => PyData.bool (f x)) = some (xs.map f)
  | [] => rfl
  | x :: xs => by simp [boolsOf, boolsOf_map f xs]
theorem tuple_or (v : D) : (∃ ds, v = .tuple ds) ∨ ∀ ds, v ≠ .tuple ds := by
  cases v <;> first
    | exact .inl ⟨_, rfl⟩
    | exact .inr fun ds e => by cases e
theorem bIs_not {v : D} (h : ∀ ds, v ≠ .tuple ds) (hn : (tyName v).isSome = true) : bIs "tuple" v = some (.dat (.bool false)) := by
  cases v <;> first
    | exact absurd rfl (h _)
    | (cases hn; done)
    | rfl
theorem is_arrows_run {Γ : Nat → Fn} {p : Nat} (hs : HasSign Γ p) {n : Int} {rs : List Road} {v : D} (hv : RowV v) : runP Γ 1 (b_is_arrows p) [frD n rs, v] = some (.dat (.bool (arB rs.length v))) := by
  have ha : argSl v = .dat v := by have := hv.1; cases v <;> first | rfl | cases this
  refine runP_rt (st := ⟨[.dat (frD n rs), .dat v, .un], none⟩) ?_
  show execs Γ (b_is_arrows p) ⟨[.dat (frD n rs), argSl v, .un], none⟩ = _
  rw [ha]
  unfold b_is_arrows
  refine execs_rt ?_
  rcases tuple_or v with ⟨ds, rfl⟩ | hno
  · obtain ⟨hd, hl⟩ := hv.2 ds rfl
    have hI : evalI Γ (.seq (.var 1)) ⟨[.dat (frD n rs), .dat (.tuple ds), .un], none⟩ = some (ds, ⟨[.dat (frD n rs), .dat (.tuple ds), .un], none⟩) := by simp [evalI]
    have hc : eval Γ (c_is_arrows_1 p) ⟨[.dat (frD n rs), .dat (.tuple ds), .un], none⟩ = _ := comp_map (fun d => .bool (sgD d)) hI rfl rfl rfl (fun d hd' => by
      have h1 : (tyName d).isSome = true := by
        have := hd d hd'
        cases d <;> first | rfl | (simp [okD] at this)
      simp [compF, evalC, hs.run d h1, hide, unAt]) (by omega)
    by_cases hlen : ds.length = rs.length
    · simp [hc, bIs, tyName, evEq_int, bAll, boolsOf_map, arB, hlen, List.all_map]
    · have : ¬ (ds.length : Int) = rs.length := by omega
      simp [hc, bIs, tyName, evEq_int, arB, hlen, this]
  · have : arB rs.length v = false := by cases v <;> first | rfl | exact absurd rfl (hno _)
    simp [bIs_not hno hv.1, this]
def c_is_marks_1 : Ex := (.comp [2] (.name 2) (.seq (.var 0)) (.or2 (.not (.bi .isInt (.cons (.var 2) .nil))) (.or2 (.bi .isBool (.cons (.var 2) .nil)) (.op2 .notin (.var 2) (.tup (.cons (.cst (.int 1)) (.cons (.neg (.cst (.int 1))) .nil)))))) (.var 2))
def b_is_marks : Sms := (.cons (.ite (.or2 (.not (.bi .isTup (.cons (.var 0) .nil))) (.op2 .ne (.bi .len (.cons (.var 0) .nil)) (.var 1))) (.cons (.ret (.cst (.bool false))) .nil) .nil) (.cons (.ret (.op2 .eq c_is_marks_1 (.lst .nil))) .nil))
theorem eqNil (xs : List D) (h : ∀ d ∈ xs, okD 11 d = true) : evEq (.list xs) (.list []) = some xs.isEmpty := by
  have h1 : okD 12 (.list xs) = true := by simpa [okD] using h
  have h2 : okD 12 (.list []) = true := rfl
  simp only [evEq, h1, h2, Bool.and_self, if_true]
  cases xs <;> rfl
theorem is_marks_run {Γ : Nat → Fn} {m : Nat} {v : D} (hv : RowV v) : runP Γ 1 b_is_marks [v, .int m] = some (.dat (.bool (arB m v))) := by
  have ha : argSl v = .dat v := by have := hv.1; cases v <;> first | rfl | cases this
  refine runP_rt (st := ⟨[.dat v, .dat (.int m), .un], none⟩) ?_
  show execs Γ b_is_marks ⟨[argSl v, .dat (.int m), .un], none⟩ = _
  rw [ha]
  unfold b_is_marks
  rcases tuple_or v with ⟨ds, rfl⟩ | hno
  · obtain ⟨hd, hl⟩ := hv.2 ds rfl
    by_cases hlen : ds.length = m
    · have hI : evalI Γ (.seq (.var 0)) ⟨[.dat (.tuple ds), .dat (.int m), .un], none⟩ = some (ds, ⟨[.dat (.tuple ds), .dat (.int m), .un], none⟩) := by simp [evalI]
      have hc : eval Γ c_is_marks_1 ⟨[.dat (.tuple ds), .dat (.int m), .un], none⟩ = _ := comp_fm (fun d => if sgD d then none else some d) hI rfl rfl rfl (fun d hd' => by
        have := hd d hd'
        cases d with
        | int i => by_cases h : (i == 1 || i == -1) = true <;> simp [compF, evalC, bIs, tyName, sgD, two_le, evIn_sg, h, hide, unAt]
        | dict kvs => simp [okD] at this
        | _ => simp [compF, evalC, bIs, tyName, sgD, hide, unAt]) (by omega)
      refine (execs_nx (st' := ⟨[.dat (.tuple ds), .dat (.int m), .un], none⟩) ?_).trans (execs_rt ?_)
      · simp [bIs, tyName, evEq_int, hlen]
      · have z : (0 : Nat) ≤ sizeLine := Nat.zero_le _
        have he := eqNil (ds.filterMap fun d => if sgD d then none else some d) (fun d hd' => by
          obtain ⟨d', h1, h2⟩ := List.mem_filterMap.mp hd'
          split at h2
          · cases h2
          · cases h2; exact hd _ h1)
        have hq : (ds.filterMap fun d => if sgD d then none else some d).isEmpty = ds.all sgD := by
          clear hc he hI hd hl hv ha hlen
          induction ds with
          | nil => rfl
          | cons d ds ih => by_cases h : sgD d <;> simp [h, ih]
        simp [hc, he, hq, arB, hlen]
    · have hlen' : ¬ (ds.length : Int) = m := by omega
      refine execs_rt ?_
      simp [bIs, tyName, evEq_int, hlen', execs, arB, hlen]
  · have : arB m v = false := by cases v <;> first | rfl | exact absurd rfl (hno _)
    refine execs_rt ?_
    simp [bIs_not hno hv.1, this, execs]
end Pf

set_option maxRecDepth 100000
/-! K58b: ends, along, marks. -/
namespace Pf
open PySem
def prD (z : Road × Int) : D := .tuple [rdD z.1, .int z.2]
def Mk (ms : List Int) : Prop := ∀ m ∈ ms, m = 1 ∨ m = -1
def endD (z : Road × Int) : D := .tuple [.int z.2, .int (-z.1.2.2 * z.2)]
def c_arrow_ends_1 : Ex := (.comp [2, 3] (.tup [(.name 2), (.name 3)]) (.zip true (.idx (.var 0) (.cst (.int 1))) (.var 1)) .nop (.tup (.cons (.var 3) (.cons (.op2 .mul (.neg (.idx (.var 2) (.cst (.int 2)))) (.var 3)) .nil))))
def b_arrow_ends : Sms := (.cons (.ret (.bi .tuple (.cons c_arrow_ends_1 .nil))) .nil)
theorem arrow_ends_run {Γ : Nat → Fn} {n : Int} {rs : List Road} {ms : List Int} (hm : Mk ms) (hl : rs.length = ms.length) (hk : rs.length ≤ 1000) : runP Γ 2 b_arrow_ends [frD n rs, tI ms] = some (.dat (.tuple ((rs.zip ms).map endD))) := by
  refine runP_rt (st := ⟨[.dat (frD n rs), .dat (tI ms), .un, .un], none⟩) ?_
  show execs Γ b_arrow_ends ⟨[.dat (frD n rs), .dat (tI ms), .un, .un], none⟩ = _
  unfold b_arrow_ends
  refine execs_rt ?_
  have hI : evalI Γ (.zip true (.idx (.var 0) (.cst (.int 1))) (.var 1)) ⟨[.dat (frD n rs), .dat (tI ms), .un, .un], none⟩ = some ((rs.zip ms).map prD, ⟨[.dat (frD n rs), .dat (tI ms), .un, .un], none⟩) := by
    have := zipS_enc (a := .tuple (rs.map rdD)) (b := tI ms) (f := rdD) (g := .int) rfl rfl hl
    simp [evalI, this]
    intros; rfl
  have hc : eval Γ c_arrow_ends_1 ⟨[.dat (frD n rs), .dat (tI ms), .un, .un], none⟩ = _ := comp_enc endD hI rfl rfl rfl (fun z hz => by
    obtain ⟨r, m⟩ := z
    have h1 := hm m (List.of_mem_zip hz).2
    have h2 := sign_small h1
    simp [compF, evalC, prD, rdD, evIdx, L2.atI, L2.ixN, h2, hide, unAt, endD]) (by simp; omega)
  simp [hc]
theorem along_eq {Γ : Nat → Fn} {st : Bool} {ms zs : List Int} (hm : Mk ms) (hl : ms.length = zs.length) (hk : zs.length ≤ 1000) (hI : evalI Γ (.zip st (.var 0) (.var 1)) ⟨[.dat (tI ms), .dat (tI zs), .un, .un], none⟩ = some ((ms.zip zs).map fun z => .tuple [.int z.1, .int z.2], ⟨[.dat (tI ms), .dat (tI zs), .un, .un], none⟩)) :
    runP Γ 2 (.cons (.ret (.op2 .eq (.comp [2, 3] (.tup [(.name 2), (.name 3)]) (.zip st (.var 0) (.var 1)) (.op2 .lt (.op2 .mul (.var 2) (.var 3)) (.cst (.int 0))) (.cst (.int 1))) (.lst .nil))) .nil) [tI ms, tI zs] = some (.dat (.bool ((ms.zip zs).filter fun z => decide (z.1 * z.2 < 0)).isEmpty)) := by
  refine runP_rt (st := ⟨[.dat (tI ms), .dat (tI zs), .un, .un], none⟩) ?_
  show execs Γ _ ⟨[.dat (tI ms), .dat (tI zs), .un, .un], none⟩ = _
  refine execs_rt ?_
  have hc := comp_encF (Γ := Γ) (own := [2, 3]) (tg := .tup [(.name 2), (.name 3)]) (c := .op2 .lt (.op2 .mul (.var 2) (.var 3)) (.cst (.int 0))) (e := .cst (.int 1)) (fun z : Int × Int => decide (z.1 * z.2 < 0)) (fun _ => .int 1) hI rfl rfl rfl (fun z hz => by
    obtain ⟨m, z⟩ := z
    have h1 := hm m (List.of_mem_zip hz).1
    have h2 := sign_small h1
    by_cases h : m * z < 0 <;> simp [compF, evalC, h2, h, hide, unAt]) (by simp; omega)
  have he := eqNil (((ms.zip zs).filter fun z => decide (z.1 * z.2 < 0)).map fun _ => PyData.int 1) (fun d hd => by
    obtain ⟨_, _, rfl⟩ := List.mem_map.mp hd
    rfl)
  rw [List.isEmpty_map] at he
  simp [hc, he]
def b_goes_along : Sms := (.cons (.ret (.op2 .eq (.comp [2, 3] (.tup [(.name 2), (.name 3)]) (.zip true (.var 0) (.var 1)) (.op2 .lt (.op2 .mul (.var 2) (.var 3)) (.cst (.int 0))) (.cst (.int 1))) (.lst .nil))) .nil)
def b_is_along : Sms := (.cons (.ret (.op2 .eq (.comp [2, 3] (.tup [(.name 2), (.name 3)]) (.zip false (.var 0) (.var 1)) (.op2 .lt (.op2 .mul (.var 2) (.var 3)) (.cst (.int 0))) (.cst (.int 1))) (.lst .nil))) .nil)
def alongB (ms zs : List Int) : Bool := ((ms.zip zs).filter fun z => decide (z.1 * z.2 < 0)).isEmpty
theorem goes_along_run {Γ : Nat → Fn} {ms zs : List Int} (hm : Mk ms) (hl : ms.length = zs.length) (hk : zs.length ≤ 1000) : runP Γ 2 b_goes_along [tI ms, tI zs] = some (.dat (.bool (alongB ms zs))) :=
  along_eq hm hl hk (by
    have := zipS_enc (a := tI ms) (b := tI zs) (f := .int) (g := .int) rfl rfl hl
    simp [evalI, this])
theorem is_along_run {Γ : Nat → Fn} {ms zs : List Int} (hm : Mk ms) (hl : ms.length = zs.length) (hk : zs.length ≤ 1000) : runP Γ 2 b_is_along [tI ms, tI zs] = some (.dat (.bool (alongB ms zs))) :=
  along_eq hm hl hk (by
    have : zipOf false (tI ms) (tI zs) = _ := zipT_enc (f := .int) (g := .int) (xs := ms) (ys := zs)
    simp [evalI, this])
/-! marks -/
def c_marks (ofi : Nat) : Ex := (.comp [2] (.name 2) (.rng1 (.var 1)) .nop (.callS ofi (.cons (.var 0) (.cons (.lst (.cons (.cst (.int 1)) (.cons (.neg (.cst (.int 1))) .nil))) .nil))))
def b_marks (ofi : Nat) : Sms := (.cons (.ret (.bi .tuple (.cons (c_marks ofi) .nil))) .nil)
structure HasMarks (Γ : Nat → Fn) (p : Nat) : Prop where
  run : ∀ (s : Src) (m : Nat), m ≤ 1000 → ∃ ms s', (Γ p).runS [srcD, .int m] s = some (.dat (tI ms), s') ∧ ms.length = m ∧ Mk ms
/-- a drawn sign -/
theorem of_sign {Γ : Nat → Fn} {p : Nat} (ho : HasOf Γ p) (s : Src) : ∃ (i : Int) (s' : Src), (Γ p).runS [srcD, .list [.int 1, .int (-1)]] s = some (.dat (.int i), s') ∧ (i = 1 ∨ i = -1) := by
  obtain ⟨g, s1, hg, gm⟩ := ho.run s (.list [.int 1, .int (-1)]) _ rfl (by simp) (by simp)
  simp only [List.mem_cons, List.not_mem_nil, or_false] at gm
  rcases gm with rfl | rfl
  · exact ⟨1, s1, hg, .inl rfl⟩
  · exact ⟨-1, s1, hg, .inr rfl⟩
theorem ints_of_each : ∀ {ds : List D} {P : Int → Prop}, (∀ d ∈ ds, ∃ i, d = .int i ∧ P i) → ∃ xs : List Int, ds = xs.map .int ∧ ∀ x ∈ xs, P x
  | [], P, _ => ⟨[], rfl, by simp⟩
  | d :: ds, P, h => by
    obtain ⟨i, rfl, hp⟩ := h d (by simp)
    obtain ⟨xs, e, hx⟩ := ints_of_each (ds := ds) (P := P) fun d hd => h d (by simp [hd])
    refine ⟨i :: xs, by rw [e]; rfl, fun x hm => ?_⟩
    rcases List.mem_cons.mp hm with rfl | hm
    · exact hp
    · exact hx x hm
theorem all_of_ix {α : Type} {xs : List α} {ds : List D} {P : D → Prop} (hl : ds.length = xs.length) (h : ∀ (i : Nat) (x : α) (d : D), xs[i]? = some x → ds[i]? = some d → P d) : ∀ d ∈ ds, P d := fun d hd => by
  obtain ⟨i, hi⟩ := List.mem_iff_getElem?.mp hd
  have hlt : i < xs.length := by rw [← hl]; exact (List.getElem?_eq_some_iff.mp hi).1
  exact h i _ d (List.getElem?_eq_getElem hlt) hi
def rngN (m : Nat) : List D := (List.range m).map fun (k : Nat) => .int (k : Int)
theorem rng_eval {Γ : Nat → Fn} {st : St} {i : Nat} {m : Nat} (h : st.get i = .dat (.int m)) (hm : m ≤ 16777216) : evalI Γ (.rng1 (.var i)) st = some (rngN m, st) := by
  have h2 : m < 4611686018427387904 := by omega
  have h1 : (m : Int) ≤ 16777216 := by omega
  simp [evalI, h, h1, h2, rngN]
theorem marks_run {Γ : Nat → Fn} {p : Nat} (ho : HasOf Γ p) (s : Src) (m : Nat) (hm : m ≤ 1000) : ∃ ms s', runS Γ 1 (b_marks p) [srcD, .int m] s = some (.dat (tI ms), s') ∧ ms.length = m ∧ Mk ms := by
  have hI := rng_eval (Γ := Γ) (st := ⟨[.src, .dat (.int m), .un], some s⟩) (i := 1) (m := m) rfl (by omega)
  obtain ⟨ds, s', e, l, h⟩ := comp_draw (Γ := Γ) (own := [2]) (tg := .name 2) (c := .nop) (e := .callS p (.cons (.var 0) (.cons (.lst (.cons (.cst (.int 1)) (.cons (.neg (.cst (.int 1))) .nil))) .nil))) (xs := List.range m) (enc := fun (k : Nat) => .int (k : Int))
    (fun _ d => ∃ i, d = .int i ∧ (i = 1 ∨ i = -1)) (fun s => ⟨[.src, .dat (.int m), .un], some s⟩) s hI (fun _ => rfl) (fun _ => rfl) (fun _ _ => rfl) (fun x hx s => by
      obtain ⟨i, s', e, hi⟩ := of_sign ho s
      refine ⟨.int i, s', ?_, i, rfl, hi⟩
      simp [compF, evalC, e, hide, unAt]) (by simp; omega)
  obtain ⟨ms, rfl, hms⟩ := ints_of_each (all_of_ix l h)
  refine ⟨ms, s', ?_, by simpa using l, hms⟩
  refine runS_rt (env := [.src, .dat (.int m), .un]) ?_
  show execs Γ (b_marks p) ⟨[.src, .dat (.int m), .un], some s⟩ = _
  unfold b_marks
  refine execs_rt ?_
  have e' : eval Γ (c_marks p) ⟨[.src, .dat (.int m), .un], some s⟩ = _ := e
  simp [-List.map_map, e']
  rfl
theorem hasMarks {Γ Γ' : Nat → Fn} {p q : Nat} (h : Γ p = .srcd (runS Γ' 1 (b_marks q))) (hq : HasOf Γ' q) : HasMarks Γ p :=
  ⟨fun s m hm => by rw [h]; exact marks_run hq s m hm⟩
end Pf

set_option maxRecDepth 100000
/-! K58c: the law of k58. -/
namespace Pf
open PySem
def l_58_1 : Sms := (.cons (.app 8 (.tup (.cons (.var 12) (.cons (.ite (.op2 .lt (.var 11) (.cst (.int 0))) (.var 12) (.op2 .sub (.cst (.int 0)) (.var 12))) .nil)))) .nil)
def c_58_1 : Ex := (.comp [22] (.name 22) (.rng1 (.var 4)) .nop (.op2 .sub (.callS 6 (.cons (.var 1) (.cons (.cst (.int 9)) .nil))) (.cst (.int 4))))
def c_58_2 : Ex := (.comp [23] (.name 23) (.rng1 (.var 6)) .nop (.op2 .sub (.callS 6 (.cons (.var 1) (.cons (.cst (.int 5)) .nil))) (.cst (.int 2))))
def c_58_3 : Ex := (.comp [24] (.name 24) (.seq (.var 7)) .nop (.op2 .sub (.cst (.int 0)) (.var 24)))
def l_58_2 : Sms := (.cons (.ite (.op2 .ne (.bi .repr (.cons (.call 5 (.cons (.var 7) (.cons (.var 16) .nil))) .nil)) (.bi .repr (.cons (.call 12 (.cons (.var 7) (.cons (.var 16) .nil))) .nil))) (.cons (.ret (.cst (.bool false))) .nil) .nil) .nil)
def l_58_3 : Sms := (.cons (.set 21 (.bi .repr (.cons (.var 20) .nil))) (.cons (.ite (.or2 (.op2 .ne (.bi .repr (.cons (.call 1 (.cons (.var 3) (.cons (.var 20) .nil))) .nil)) (.bi .repr (.cons (.call 14 (.cons (.var 20) (.cons (.var 6) .nil))) .nil))) (.op2 .ne (.bi .repr (.cons (.var 20) .nil)) (.var 21))) (.cons (.ret (.cst (.bool false))) .nil) .nil) .nil))
def l_58_4 : Sms := (.cons (.set 3 (.callS 9 (.cons (.var 1) (.cons (.cst (.int 5)) (.cons (.cst (.int 8)) .nil))))) (.cons (.asgN [4, 5, 6] (.cons (.idx (.var 3) (.cst (.int 0))) (.cons (.bi .repr (.cons (.var 3) .nil)) (.cons (.bi .len (.cons (.idx (.var 3) (.cst (.int 1))) .nil)) .nil)))) (.cons (.set 7 (.callS 13 (.cons (.var 1) (.cons (.var 6) .nil)))) (.cons (.set 8 (.lst .nil)) (.cons (.for [9, 10, 11, 12] (.tup [(.tup [(.name 9), (.name 10), (.name 11)]), (.name 12)]) (.zip false (.idx (.var 3) (.cst (.int 1))) (.var 7)) l_58_1) (.cons (.ite (.op2 .ne (.bi .repr (.cons (.call 2 (.cons (.var 3) (.cons (.var 7) .nil))) .nil)) (.bi .repr (.cons (.bi .tuple (.cons (.var 8) .nil)) .nil))) (.cons (.ret (.cst (.bool false))) .nil) .nil) (.cons (.set 13 (.bi .tuple (.cons c_58_1 .nil))) (.cons (.ite (.op2 .ne (.bi .repr (.cons (.call 3 (.cons (.var 3) (.cons (.var 13) .nil))) .nil)) (.bi .repr (.cons (.call 10 (.cons (.var 3) (.cons (.var 13) .nil))) .nil))) (.cons (.ret (.cst (.bool false))) .nil) .nil) (.cons (.ite (.op2 .ne (.bi .repr (.cons (.call 4 (.cons (.var 3) (.cons (.var 13) .nil))) .nil)) (.bi .repr (.cons (.call 11 (.cons (.var 3) (.cons (.var 13) .nil))) .nil))) (.cons (.ret (.cst (.bool false))) .nil) .nil) (.cons (.set 14 (.bi .tuple (.cons c_58_2 .nil))) (.cons (.set 15 (.lst (.cons (.var 14) (.cons (.bi .tuple (.cons (.op2 .mul (.lst (.cons (.cst (.int 0)) .nil)) (.var 6)) .nil)) (.cons (.var 7) (.cons (.bi .tuple (.cons c_58_3 .nil)) .nil)))))) (.cons (.for [16] (.name 16) (.seq (.var 15)) l_58_2) (.cons (.set 17 (.callS 6 (.cons (.var 1) (.cons (.bi .max2 (.cons (.cst (.int 1)) (.cons (.var 6) .nil))) .nil)))) (.cons (.set 18 (.callS 7 (.cons (.var 1) (.cons (.lst (.cons (.cst .none) (.cons (.cst (.bool true)) (.cons (.cst (.int 0)) (.cons (.cst (.int 2)) (.cons (.cst (.str ("1" : PySem.Str))) (.cons (.tup (.cons (.cst (.int 1)) .nil)) (.cons (.lst (.cons (.cst (.int 1)) .nil)) (.cons (.neg (.cst (.int 1))) .nil))))))))) .nil)))) (.cons (.set 19 (.lst (.cons (.var 7) (.cons (.bi .list (.cons (.var 7) .nil)) (.cons (.slc .cut (.var 7) (.cst (.int 1)) .nop) (.cons (.op2 .add (.var 7) (.tup (.cons (.cst (.int 1)) .nil))) (.cons (.op2 .add (.op2 .add (.slc .cut (.var 7) .nop (.var 17)) (.tup (.cons (.var 18) .nil))) (.slc .cut (.var 7) (.op2 .add (.var 17) (.cst (.int 1))) .nop)) (.cons (.var 18) (.cons (.cst .none) (.cons (.tup .nil) .nil)))))))))) (.cons (.for [20, 21] (.name 20) (.seq (.op2 .add (.var 19) (.lst (.cons (.op2 .mul (.tup (.cons (.cst (.bool true)) .nil)) (.var 6)) (.cons (.op2 .mul (.tup (.cons (.cst (.int 0)) .nil)) (.var 6)) .nil))))) l_58_3) (.cons (.ite (.op2 .ne (.bi .repr (.cons (.var 3) .nil)) (.var 5)) (.cons (.ret (.cst (.bool false))) .nil) .nil) .nil)))))))))))))))))
def b_58 : Sms := (.cons (.for [2, 3, 4, 5, 6, 7, 8, 9, 10, 11, 12, 13, 14, 15, 16, 17, 18, 19, 20, 21] (.name 2) (.rng1 (.cst (.int 5))) l_58_4) (.cons (.ret (.op2 .eq (.call 4 (.cons (.tup (.cons (.cst (.int 1)) (.cons (.tup (.cons (.tup (.cons (.cst (.int 0)) (.cons (.cst (.int 0)) (.cons (.neg (.cst (.int 1))) .nil)))) .nil)) .nil))) (.cons (.tup (.cons (.neg (.cst (.int 3))) .nil)) .nil))) (.tup (.cons (.neg (.cst (.int 1))) .nil)))) .nil))
theorem ne_self (x : Str) : evEq (.str x) (.str x) = some true := by
  simp [evEq_str]
structure Has58 (Γ : Nat → Fn) : Prop where
  pick : HasPick Γ 6
  of_ : HasOf Γ 7
  frame : HasFrame Γ 9
  marks : HasMarks Γ 13
  ends : ∀ (n : Int) (rs : List Road) (ms : List Int), Mk ms → rs.length = ms.length → rs.length ≤ 1000 → (Γ 2).runP [frD n rs, tI ms] = some (.dat (.tuple ((rs.zip ms).map endD)))
  read3 : HasRead Γ 3
  read10 : HasRead Γ 10
  arr4 : ∀ (n : Int) (rs : List Road) (hs : List Int), (∀ r ∈ rs, RoadOk hs.length r) → rs.length ≤ 1000 → (Γ 4).runP [frD n rs, tI hs] = some (.dat (arrD (rs.map (rdg hs))))
  arr11 : ∀ (n : Int) (rs : List Road) (hs : List Int), (∀ r ∈ rs, RoadOk hs.length r) → rs.length ≤ 1000 → (Γ 11).runP [frD n rs, tI hs] = some (.dat (arrD (rs.map (rdg hs))))
  along5 : ∀ ms zs : List Int, Mk ms → ms.length = zs.length → zs.length ≤ 1000 → (Γ 5).runP [tI ms, tI zs] = some (.dat (.bool (alongB ms zs)))
  along12 : ∀ ms zs : List Int, Mk ms → ms.length = zs.length → zs.length ≤ 1000 → (Γ 12).runP [tI ms, tI zs] = some (.dat (.bool (alongB ms zs)))
  isArr : ∀ (n : Int) (rs : List Road) (v : D), RowV v → (Γ 1).runP [frD n rs, v] = some (.dat (.bool (arB rs.length v)))
  isMk : ∀ (m : Nat) (v : D), RowV v → (Γ 14).runP [v, .int m] = some (.dat (.bool (arB m v)))
theorem sh_endD {rs : List Road} {ms : List Int} (hr : ∀ r ∈ rs, r.2.2 = 1 ∨ r.2.2 = -1) (hm : Mk ms) (hl : rs.length ≤ 1000) : ShD (.tuple ((rs.zip ms).map endD)) where
  sm := by
    simp only [smD, List.all_eq_true, List.mem_map]
    rintro d ⟨⟨r, m⟩, hz, rfl⟩
    have h1 := hm m (List.of_mem_zip hz).2
    have h2 := hr r (List.of_mem_zip hz).1
    simp only [endD, smD, List.all_cons, List.all_nil, Bool.and_true, Bool.and_eq_true, decide_eq_true_eq]
    rcases h1 with rfl | rfl <;> rcases h2 with h | h <;> rw [h] <;> decide
  bk := by
    have : ∀ l : List (Road × Int), PyData.bulkAll (l.map endD) = 3 * l.length := by
      intro l
      induction l with
      | nil => simp [PyData.bulkAll]
      | cons x l ih => simp only [List.map_cons, PyData.bulkAll, ih, endD, PyData.bulk, List.length_cons]; omega
    simp only [PyData.bulk, this, List.length_zip]
    omega
theorem sh_bool (b : Bool) : ShD (.bool b) := ⟨rfl, by simp [PyData.bulk]⟩
theorem sh_none : ShD .none := ⟨rfl, by simp [PyData.bulk]⟩
theorem rdg_small {hs : List Int} {r : Road} (hh : ∀ x ∈ hs, x.natAbs ≤ 4) (hr : r.2.2 = 1 ∨ r.2.2 = -1) : (rdg hs r).natAbs ≤ 8 := by
  have h : ∀ i : Nat, (hs.getD i 0).natAbs ≤ 4 := fun i => by
    by_cases hi : i < hs.length
    · have := hh hs[i] (List.getElem_mem hi)
      simpa [hi] using this
    · simp [List.getD_eq_getElem?_getD, List.getElem?_eq_none (by omega : hs.length ≤ i)]
  have h1 := h r.1.toNat
  have h2 := h r.2.1.toNat
  unfold rdg
  rcases hr with e | e <;> rw [e] <;> omega
theorem mk_small {ms : List Int} (h : Mk ms) : ∀ x ∈ ms, x.natAbs < 99 := fun x hx => by rcases h x hx with rfl | rfl <;> decide
section
variable {Γ : Nat → Fn}
abbrev E58 (lap : Sl) (s : Src) : St := ⟨[.un, .src, lap, .un, .un, .un, .un, .un, .un, .un, .un, .un, .un, .un, .un, .un, .un, .un, .un, .un, .un, .un, .un, .un, .un], some s⟩
set_option maxHeartbeats 4000000 in
theorem lap58 (h : Has58 Γ) (lap : D) (s : Src) : Nx Γ l_58_4 (E58 (.dat lap) s) fun o => ∃ s2, o = .nx s2 ∧ ∃ s', clear [2, 3, 4, 5, 6, 7, 8, 9, 10, 11, 12, 13, 14, 15, 16, 17, 18, 19, 20, 21] s2 = E58 .un s' := by
  obtain ⟨n, rs, s1, h1, hn, hl, hr⟩ := h.frame.run s 5 8 (by omega) (by omega) (by omega) (by omega)
  have hsh := (shD_frame (n := n) (rs := rs) (by omega) (by omega) hr (by omega)).repr
  have hsg : ∀ r ∈ rs, r.2.2 = 1 ∨ r.2.2 = -1 := fun r hr' => (hr r hr').2.2
  unfold l_58_4
  refine nx_step (by simp [h1]; rfl) ?_
  refine nx_step (by simp [hsh]; rfl) ?_
  obtain ⟨ms, s2, h2, l2, m2⟩ := h.marks.run s1 rs.length (by omega)
  refine nx_step (by simp [h2]; rfl) ?_
  refine nx_step (by simp; rfl) ?_
  have hz : zipOf false (.tuple (rs.map rdD)) (tI ms) = some ((rs.zip ms).map prD) := zipT_enc (f := rdD) (g := .int) (xs := rs) (ys := ms)
  have hel : ∀ i, (((rs.zip ms).map endD).take i).length < sizeLine := fun i => by
    rw [sizeLine_eq, List.length_take, List.length_map, List.length_zip]; omega
  refine nx_loop (ds := (rs.zip ms).map prD) (I := fun i st => st = ⟨[.un, .src, .dat lap, .dat (frD n rs), .dat (.int n), .dat (.str (frD n rs).shown), .dat (.int rs.length), .dat (tI ms), .lst (((rs.zip ms).map endD).take i), .un, .un, .un, .un, .un, .un, .un, .un, .un, .un, .un, .un, .un, .un, .un, .un], some s2⟩) (by simp [evalI, hz]; rfl) rfl (fun i d s0 hd hI => ?_) fun st' hI => ?_
  · subst hI
    rw [List.getElem?_map, Option.map_eq_some_iff] at hd
    obtain ⟨⟨r, m⟩, hz', rfl⟩ := hd
    have hmem := List.mem_of_getElem? hz'
    have hm := m2 m (List.of_mem_zip hmem).2
    have hg := hsg r (List.of_mem_zip hmem).1
    refine ⟨_, by simp [prD, rdD]; rfl, ?_⟩
    unfold l_58_1
    have htk : ((rs.zip ms).map endD).take (i + 1) = ((rs.zip ms).map endD).take i ++ [endD (r, m)] := by
      rw [List.take_add_one, List.getElem?_map, hz']; rfl
    refine nx_step (st1 := ⟨[.un, .src, .dat lap, .dat (frD n rs), .dat (.int n), .dat (.str (frD n rs).shown), .dat (.int rs.length), .dat (tI ms), .lst (((rs.zip ms).map endD).take (i + 1)), .dat (.int r.1), .dat (.int r.2.1), .dat (.int r.2.2), .dat (.int m), .un, .un, .un, .un, .un, .un, .un, .un, .un, .un, .un, .un], some s2⟩) ?_ ?_
    · rcases hg with hg | hg <;> simp [-List.length_take, hg, hel, htk, endD]
    · exact nx_nil ⟨_, .inl rfl, rfl⟩
  · subst hI
    rw [List.length_map, ← List.length_map (f := endD), List.take_length]
    refine nx_skip (by simp [h.ends n rs ms m2 l2.symm (by omega), (sh_endD hsg m2 (by omega)).repr, ne_self]; rfl) ?_
    -- the heights
    obtain ⟨N, rfl⟩ : ∃ N : Nat, n = N := ⟨n.toNat, by omega⟩
    have hI1 := rng_eval (Γ := Γ) (st := ⟨[.un, .src, .dat lap, .dat (frD N rs), .dat (.int N), .dat (.str (frD N rs).shown), .dat (.int rs.length), .dat (tI ms), .lst ((rs.zip ms).map endD), .un, .un, .un, .un, .un, .un, .un, .un, .un, .un, .un, .un, .un, .un, .un, .un], some s2⟩) (i := 4) (m := N) rfl (by omega)
    obtain ⟨ds, s3, e3, l3, p3⟩ := comp_draw (Γ := Γ) (own := [22]) (tg := .name 22) (c := .nop) (e := (.op2 .sub (.callS 6 (.cons (.var 1) (.cons (.cst (.int 9)) .nil))) (.cst (.int 4)))) (xs := List.range N) (enc := fun (k : Nat) => .int (k : Int))
      (fun _ d => ∃ i, d = .int i ∧ i.natAbs ≤ 4) (fun s => ⟨[.un, .src, .dat lap, .dat (frD N rs), .dat (.int N), .dat (.str (frD N rs).shown), .dat (.int rs.length), .dat (tI ms), .lst ((rs.zip ms).map endD), .un, .un, .un, .un, .un, .un, .un, .un, .un, .un, .un, .un, .un, .un, .un, .un], some s⟩) s2 hI1 (fun _ => rfl) (fun _ => rfl) (fun _ _ => rfl) (fun x hx s => by
        obtain ⟨c, s', e, c0, c1⟩ := h.pick.run s 9 (by omega) (by omega)
        exact ⟨.int (c - 4), s', by simp [compF, evalC, e, hide, unAt], c - 4, rfl, by omega⟩) (by simp; omega)
    obtain ⟨hs, rfl, hhs⟩ := ints_of_each (all_of_ix l3 p3)
    rw [List.length_map, List.length_range] at l3
    have e3' : eval Γ c_58_1 ⟨[.un, .src, .dat lap, .dat (frD N rs), .dat (.int N), .dat (.str (frD N rs).shown), .dat (.int rs.length), .dat (tI ms), .lst ((rs.zip ms).map endD), .un, .un, .un, .un, .un, .un, .un, .un, .un, .un, .un, .un, .un, .un, .un, .un], some s2⟩ = _ := e3
    refine nx_step (st1 := ⟨[.un, .src, .dat lap, .dat (frD N rs), .dat (.int N), .dat (.str (frD N rs).shown), .dat (.int rs.length), .dat (tI ms), .lst ((rs.zip ms).map endD), .un, .un, .un, .un, .dat (tI hs), .un, .un, .un, .un, .un, .un, .un, .un, .un, .un, .un], some s3⟩) (by simp [-List.map_map, e3']; rfl) ?_
    have hrr : ∀ r ∈ rs, RoadOk hs.length r := fun r hr' => by rw [l3]; exact hr r hr'
    have hrd : ShD (tI (rs.map (rdg hs))) := shD_tI (fun x hx => by
      obtain ⟨r, hr', rfl⟩ := List.mem_map.mp hx
      have := rdg_small hhs (hsg r hr')
      omega) (by simp; omega)
    refine nx_skip (by simp [-List.map_map, h.read3.run N rs hs hrr (by omega), h.read10.run N rs hs hrr (by omega), hrd.repr, ne_self]; rfl) ?_
    have hra : ShD (arrD (rs.map (rdg hs))) := by
      unfold arrD
      split
      · exact sh_none
      · refine shD_tI (fun x hx => ?_) (by simp; omega)
        obtain ⟨y, _, rfl⟩ := List.mem_map.mp hx
        unfold sgn1
        split <;> decide
    refine nx_skip (by simp [-List.map_map, h.arr4 N rs hs hrr (by omega), h.arr11 N rs hs hrr (by omega), hra.repr, ne_self]; rfl) ?_
    -- the row
    have hI2 := rng_eval (Γ := Γ) (st := ⟨[.un, .src, .dat lap, .dat (frD N rs), .dat (.int N), .dat (.str (frD N rs).shown), .dat (.int rs.length), .dat (tI ms), .lst ((rs.zip ms).map endD), .un, .un, .un, .un, .dat (tI hs), .un, .un, .un, .un, .un, .un, .un, .un, .un, .un, .un], some s3⟩) (i := 6) (m := rs.length) rfl (by omega)
    obtain ⟨ds, s4, e4, l4, p4⟩ := comp_draw (Γ := Γ) (own := [23]) (tg := .name 23) (c := .nop) (e := (.op2 .sub (.callS 6 (.cons (.var 1) (.cons (.cst (.int 5)) .nil))) (.cst (.int 2)))) (xs := List.range rs.length) (enc := fun (k : Nat) => .int (k : Int))
      (fun _ d => ∃ i, d = .int i ∧ i.natAbs ≤ 2) (fun s => ⟨[.un, .src, .dat lap, .dat (frD N rs), .dat (.int N), .dat (.str (frD N rs).shown), .dat (.int rs.length), .dat (tI ms), .lst ((rs.zip ms).map endD), .un, .un, .un, .un, .dat (tI hs), .un, .un, .un, .un, .un, .un, .un, .un, .un, .un, .un], some s⟩) s3 hI2 (fun _ => rfl) (fun _ => rfl) (fun _ _ => rfl) (fun x hx s => by
        obtain ⟨c, s', e, c0, c1⟩ := h.pick.run s 5 (by omega) (by omega)
        exact ⟨.int (c - 2), s', by simp [compF, evalC, e, hide, unAt], c - 2, rfl, by omega⟩) (by simp; omega)
    obtain ⟨zs, rfl, hzs⟩ := ints_of_each (all_of_ix l4 p4)
    rw [List.length_map, List.length_range] at l4
    have e4' : eval Γ c_58_2 ⟨[.un, .src, .dat lap, .dat (frD N rs), .dat (.int N), .dat (.str (frD N rs).shown), .dat (.int rs.length), .dat (tI ms), .lst ((rs.zip ms).map endD), .un, .un, .un, .un, .dat (tI hs), .un, .un, .un, .un, .un, .un, .un, .un, .un, .un, .un], some s3⟩ = _ := e4
    refine nx_step (st1 := ⟨[.un, .src, .dat lap, .dat (frD N rs), .dat (.int N), .dat (.str (frD N rs).shown), .dat (.int rs.length), .dat (tI ms), .lst ((rs.zip ms).map endD), .un, .un, .un, .un, .dat (tI hs), .dat (tI zs), .un, .un, .un, .un, .un, .un, .un, .un, .un, .un], some s4⟩) (by simp [-List.map_map, e4']; rfl) ?_
    -- what is drawn
    have hm0 : evMul (.list [.int 0]) (.int rs.length) = some (.lst ((List.replicate rs.length (0 : Int)).map .int)) := by
      rw [mul_rep _ (by omega), rep_ints]
    have hJ : evalI Γ (.seq (.var 7)) ⟨[.un, .src, .dat lap, .dat (frD N rs), .dat (.int N), .dat (.str (frD N rs).shown), .dat (.int rs.length), .dat (tI ms), .lst ((rs.zip ms).map endD), .un, .un, .un, .un, .dat (tI hs), .dat (tI zs), .un, .un, .un, .un, .un, .un, .un, .un, .un, .un], some s4⟩ = some (ms.map .int, ⟨[.un, .src, .dat lap, .dat (frD N rs), .dat (.int N), .dat (.str (frD N rs).shown), .dat (.int rs.length), .dat (tI ms), .lst ((rs.zip ms).map endD), .un, .un, .un, .un, .dat (tI hs), .dat (tI zs), .un, .un, .un, .un, .un, .un, .un, .un, .un, .un], some s4⟩) := by simp [evalI]
    have hc3 : eval Γ c_58_3 ⟨[.un, .src, .dat lap, .dat (frD N rs), .dat (.int N), .dat (.str (frD N rs).shown), .dat (.int rs.length), .dat (tI ms), .lst ((rs.zip ms).map endD), .un, .un, .un, .un, .dat (tI hs), .dat (tI zs), .un, .un, .un, .un, .un, .un, .un, .un, .un, .un], some s4⟩ = _ := comp_ints (fun x => -x) hJ rfl rfl rfl (fun x hx => by simp [compF, evalC, hide, unAt]) (by omega)
    have ht : ∀ l : List Int, bTuple (.list (l.map .int)) = some (.dat (tI l)) := fun _ => rfl
    refine nx_step (st1 := ⟨[.un, .src, .dat lap, .dat (frD N rs), .dat (.int N), .dat (.str (frD N rs).shown), .dat (.int rs.length), .dat (tI ms), .lst ((rs.zip ms).map endD), .un, .un, .un, .un, .dat (tI hs), .dat (tI zs), .lst ([zs, List.replicate rs.length 0, ms, ms.map fun x => -x].map tI), .un, .un, .un, .un, .un, .un, .un, .un, .un], some s4⟩) (by simp [-List.map_map, -List.map_replicate, -b_tupleL, hm0, hc3, ht]) ?_
    refine nx_loop (ds := [zs, List.replicate rs.length 0, ms, ms.map fun x => -x].map tI) (I := fun i st => st = ⟨[.un, .src, .dat lap, .dat (frD N rs), .dat (.int N), .dat (.str (frD N rs).shown), .dat (.int rs.length), .dat (tI ms), .lst ((rs.zip ms).map endD), .un, .un, .un, .un, .dat (tI hs), .dat (tI zs), .dat (.list ([zs, List.replicate rs.length 0, ms, ms.map fun x => -x].map tI)), .un, .un, .un, .un, .un, .un, .un, .un, .un], some s4⟩) (by simp [evalI]; rfl) rfl (fun i d s0 hd hI => ?_) fun st' hI => ?_
    · subst hI
      obtain ⟨one, ho, rfl⟩ := List.mem_map.mp (List.mem_of_getElem? hd)
      have hlo : ms.length = one.length := by
        simp only [List.mem_cons, List.not_mem_nil, or_false] at ho
        rcases ho with rfl | rfl | rfl | rfl
        · omega
        · simpa using l2
        · rfl
        · simp
      refine ⟨_, by simp; rfl, ?_⟩
      unfold l_58_2
      refine nx_skip (by simp [h.along5 ms one m2 hlo (by omega), h.along12 ms one m2 hlo (by omega), (sh_bool (alongB ms one)).repr, ne_self]; rfl) ?_
      exact nx_nil ⟨_, .inl rfl, rfl⟩
    subst hI
    obtain ⟨k, s5, h5, k0, k1⟩ := h.pick.run s4 (if (1 : Int) < rs.length then (rs.length : Int) else 1) (by split <;> omega) (by split <;> omega)
    refine nx_step (by simp [h5]; rfl) ?_
    obtain ⟨odd, s6, h6, m6⟩ := h.of_.run s5 (.list [.none, .bool true, .int 0, .int 2, .str "1", .tuple [.int 1], .list [.int 1], .int (-1)]) _ rfl (by simp) (by simp)
    have hodd : Odd odd := by
      have hi : ∀ i : Int, i.natAbs < 100 → Odd (.int i) := fun i hi => ⟨decide_eq_true (by omega), decide_eq_true (by omega), by simp [PyData.bulk], fun ds e => by cases e⟩
      simp only [List.mem_cons, List.not_mem_nil, or_false] at m6
      rcases m6 with rfl | rfl | rfl | rfl | rfl | rfl | rfl | rfl
      · exact ⟨rfl, rfl, by simp [PyData.bulk], fun ds e => by cases e⟩
      · exact ⟨rfl, rfl, by simp [PyData.bulk], fun ds e => by cases e⟩
      · exact hi _ (by decide)
      · exact hi _ (by decide)
      · exact ⟨by decide +kernel, by decide +kernel, by simp only [PyData.bulk]; decide +kernel, fun ds e => by cases e⟩
      · exact ⟨rfl, rfl, by simp [PyData.bulk, PyData.bulkAll], fun ds e => by cases e; decide⟩
      · exact ⟨rfl, rfl, by simp [PyData.bulk, PyData.bulkAll], fun ds e => by cases e⟩
      · exact hi _ (by decide)
    refine nx_step (by simp [h6]; rfl) ?_
    have hmk : ∀ x ∈ ms, x.natAbs < 100 := fun x hx => by have := mk_small m2 x hx; omega
    have hml : ms.length ≤ 8 := by omega
    have a1 : evAdd (tI ms) (.tuple [.int 1]) = some (.dat (.tuple (ms.map .int ++ [.int 1]))) := by
      have : (ms.map PyData.int).length + [PyData.int 1].length ≤ sizeLine := by rw [sizeLine_eq]; simp; omega
      simp only [evAdd, tI, this, if_true]
    have c1 : ∀ lo hi, evSlc .cut (tI ms) lo hi = some (.dat (.tuple (cutD (ms.map .int) lo hi))) := fun _ _ => rfl
    have a2 : evAdd (.tuple (cutD (ms.map .int) none (some k))) (.tuple [odd]) = some (.dat (.tuple (cutD (ms.map .int) none (some k) ++ [odd]))) := by
      have := (cut_ints hmk hml none (some k)).len
      simp only [evAdd]
      rw [if_pos (by rw [sizeLine_eq]; simp; omega)]
    have a3 : evAdd (.tuple (cutD (ms.map .int) none (some k) ++ [odd])) (.tuple (cutD (ms.map .int) (some (k + 1)) none)) = some (.dat (.tuple ((cutD (ms.map .int) none (some k) ++ [odd]) ++ cutD (ms.map .int) (some (k + 1)) none))) := by
      have q1 := (cut_ints hmk hml none (some k)).len
      have q2 := (cut_ints hmk hml (some (k + 1)) none).len
      simp only [evAdd]
      rw [if_pos (by rw [sizeLine_eq]; simp; omega)]
    have hvals : ∀ v ∈ [tI ms, .list (ms.map .int), .tuple (cutD (ms.map .int) (some 1) none), .tuple (ms.map .int ++ [.int 1]), .tuple ((cutD (ms.map .int) none (some k) ++ [odd]) ++ cutD (ms.map .int) (some (k + 1)) none), odd, .none, .tuple []] ++ [.tuple (List.replicate rs.length (.bool true)), .tuple (List.replicate rs.length (.int 0))], VOk v := by
      intro v hv
      have i1 := its_ints hmk hml
      simp only [List.cons_append, List.nil_append, List.mem_cons, List.not_mem_nil, or_false] at hv
      rcases hv with rfl | rfl | rfl | rfl | rfl | rfl | rfl | rfl | rfl | rfl
      · exact i1.tup (by omega)
      · exact i1.lst (by omega)
      · exact (cut_ints hmk hml _ _).tup (by omega)
      · exact (i1.app (its_ints (xs := [1]) (n := 1) (by simp) (by simp))).tup (by omega)
      · exact (((cut_ints hmk hml _ _).app hodd.it).app (cut_ints hmk hml _ _)).tup (by omega)
      · exact ⟨hodd.sm2, by have := hodd.bk; omega, hodd.len⟩
      · exact ⟨rfl, by simp [PyData.bulk], fun ds e => by cases e⟩
      · exact ⟨rfl, by simp [PyData.bulk, PyData.bulkAll], fun ds e => by cases e; simp⟩
      · refine (show Its (List.replicate rs.length (.bool true)) 8 from ⟨fun d hd => ?_, ?_, by simp; omega⟩).tup (by omega)
        · rw [List.eq_of_mem_replicate hd]; rfl
        · have : ∀ m, PyData.bulkAll (List.replicate m (.bool true)) = m := by
            intro m
            induction m with
            | zero => simp [PyData.bulkAll]
            | succ m ih => simp [List.replicate_succ, PyData.bulkAll, PyData.bulk, ih]; omega
          rw [this]; omega
      · rw [rep_ints]
        exact (its_ints (n := 8) (fun x hx => by have := List.eq_of_mem_replicate hx; subst this; decide) (by simp; omega)).tup (by omega)
    refine nx_step (by simp [a1, a2, a3, c1]; rfl) ?_
    have r1 := mul_repT (.bool true) (m := rs.length) (by omega)
    have r2 := mul_repT (.int 0) (m := rs.length) (by omega)
    refine nx_loop (ds := [tI ms, .list (ms.map .int), .tuple (cutD (ms.map .int) (some 1) none), .tuple (ms.map .int ++ [.int 1]), .tuple ((cutD (ms.map .int) none (some k) ++ [odd]) ++ cutD (ms.map .int) (some (k + 1)) none), odd, .none, .tuple []] ++ [.tuple (List.replicate rs.length (.bool true)), .tuple (List.replicate rs.length (.int 0))]) (I := fun i st => ∃ v, st = ⟨[.un, .src, .dat lap, .dat (frD N rs), .dat (.int N), .dat (.str (frD N rs).shown), .dat (.int rs.length), .dat (tI ms), .lst ((rs.zip ms).map endD), .un, .un, .un, .un, .dat (tI hs), .dat (tI zs), .dat (.list ([zs, List.replicate rs.length 0, ms, ms.map fun x => -x].map tI)), .un, .dat (.int k), .dat odd, v, .un, .un, .un, .un, .un], some s6⟩) (by simp [evalI, r1, r2, evAdd]; rfl) ⟨_, rfl⟩ (fun i d s0 hd hI => ?_) fun st' hI => ?_
    · obtain ⟨v19, rfl⟩ := hI
      have hv := hvals d (List.mem_of_getElem? hd)
      refine ⟨_, by simp; rfl, ?_⟩
      unfold l_58_3
      refine nx_step (by simp [hv.sh.repr]; rfl) ?_
      refine nx_skip (by simp [h.isArr N rs d hv.row, h.isMk rs.length d hv.row, (sh_bool (arB rs.length d)).repr, hv.sh.repr, ne_self]; rfl) ?_
      exact nx_nil ⟨_, .inl rfl, _, rfl⟩
    obtain ⟨v19, rfl⟩ := hI
    refine nx_skip (by simp [hsh, ne_self]; rfl) ?_
    exact nx_nil ⟨_, rfl, s6, by simp [clear, unAt]⟩
theorem law58 (h : Has58 Γ) (s : Src) : ∃ st', execs Γ b_58 ⟨.un :: .src :: List.replicate 23 .un, some s⟩ = some (.rt (.dat (.bool true)) st') := by
  refine ret_true ?_
  show Nx Γ b_58 (E58 .un s) _
  unfold b_58
  refine nx_loop (ds := (List.range 5).map fun (k : Nat) => .int (k : Int)) (I := fun _ st => ∃ s, st = E58 .un s) (by simp [evalI]; rfl) ⟨s, by simp [clear, unAt]⟩ (fun i d s0 hd hI => ?_) fun st' hI => ?_
  · obtain ⟨s, rfl⟩ := hI
    refine ⟨E58 (.dat d) s, by simp, ?_⟩
    obtain ⟨o, e, s2, rfl, s', h2⟩ := lap58 h d s
    exact ⟨_, e, s2, .inl rfl, s', h2⟩
  · obtain ⟨s, rfl⟩ := hI
    have e1 := h.arr4 1 [(0, 0, -1)] [-3] (by intro r hr; simp at hr; subst hr; exact ⟨⟨by decide, by decide⟩, ⟨by decide, by decide⟩, .inr rfl⟩) (by simp)
    have e2 : arrD ([(0, 0, -1)].map (rdg [-3])) = tI [-1] := by rfl
    rw [e2] at e1
    have e1' : (Γ 4).runP [.tuple [.int 1, .tuple [.tuple [.int 0, .int 0, .int (-1)]]], .tuple [.int (-3)]] = some (.dat (.tuple [.int (-1)])) := e1
    have e3 : evEq (.tuple [.int (-1)]) (.tuple [.int (-1)]) = some true := rfl
    refine nx_rt (by simp [e1', e3]; rfl) ⟨_, rfl⟩
end
end Pf

set_option maxRecDepth 100000
/-! M1: labels of a lot of roads: heads and sides. -/
namespace Pf
def rdx (r : Road) (x : Int → Int) : Int := x r.1 - r.2.2 * x r.2.1
/-- what all roads of L leave at nought -/
def VE (L : List Road) (x : Int → Int) : Prop := ∀ r ∈ L, rdx r x = 0
def fitB (s : Int → Int) (r : Road) : Bool := decide (r.2.2 = s r.1 * s r.2.1)
def Sg (t : Int) : Prop := t = 1 ∨ t = -1
theorem Sg.mul {a b : Int} (h : Sg a) (k : Sg b) : Sg (a * b) := by
  rcases h with rfl | rfl <;> rcases k with rfl | rfl <;> simp [Sg]
theorem Sg.sq {a : Int} (h : Sg a) : a * a = 1 := by
  rcases h with rfl | rfl <;> rfl
theorem Sg.ne {a : Int} (h : Sg a) : a ≠ 0 := by
  rcases h with rfl | rfl <;> decide
theorem Sg.cases {a b : Int} (h : Sg a) (k : Sg b) : a = b ∨ a = -b := by
  rcases h with rfl | rfl <;> rcases k with rfl | rfl <;> simp
def Sgs (L : List Road) : Prop := ∀ r ∈ L, Sg r.2.2
/-- h tells each crossing's piece by its least crossing, s its side there -/
structure Lab (L : List Road) (h s : Int → Int) : Prop where
  le : ∀ c, h c ≤ c
  nn : ∀ c, 0 ≤ c → 0 ≤ h c
  id : ∀ c, h (h c) = h c
  s1 : ∀ c, Sg (s c)
  sh : ∀ c, s (h c) = 1
  rd : ∀ r ∈ L, h r.1 = h r.2.1
  pot : ∀ f : Int → Int, (∀ r ∈ L, f r.1 = f r.2.1) → ∀ c, f c = f (h c)
  vec : ∀ x, VE L x → ∀ c, x c = s c * x (h c)
def badB (L : List Road) (h s : Int → Int) (k : Int) : Bool := L.any fun r => !fitB s r && decide (h r.1 = k)
theorem badB_iff {L : List Road} {h s : Int → Int} {k : Int} : badB L h s k = true ↔ ∃ r ∈ L, fitB s r = false ∧ h r.1 = k := by
  simp [badB, List.any_eq_true]
section
variable {L : List Road} {h s : Int → Int}
/-- a road that fits is at nought on what the labels tell -/
theorem fit_zero {x : Int → Int} {r : Road} (s1 : ∀ c, Sg (s c)) (hr : h r.1 = h r.2.1) (hf : fitB s r = true) (hx : ∀ c, x c = s c * x (h c)) : rdx r x = 0 := by
  have hf : r.2.2 = s r.1 * s r.2.1 := by simpa [fitB] using hf
  unfold rdx
  rw [hx r.1, hx r.2.1, ← hr, hf]
  have := (s1 r.2.1).sq
  rw [show s r.1 * s r.2.1 * (s r.2.1 * x (h r.1)) = s r.1 * (s r.2.1 * s r.2.1) * x (h r.1) by ac_rfl, this, Int.mul_one, Int.sub_self]
theorem unfit_two {x : Int → Int} {r : Road} (sg : Sg r.2.2) (s1 : ∀ c, Sg (s c)) (hr : h r.1 = h r.2.1) (hf : fitB s r = false) (hx : ∀ c, x c = s c * x (h c)) : rdx r x = 2 * (s r.1 * x (h r.1)) := by
  have hf : ¬ r.2.2 = s r.1 * s r.2.1 := by simpa [fitB] using hf
  have e : r.2.2 = -(s r.1 * s r.2.1) := (sg.cases ((s1 r.1).mul (s1 r.2.1))).resolve_left hf
  unfold rdx
  rw [hx r.1, hx r.2.1, ← hr, e]
  have := (s1 r.2.1).sq
  rw [show -(s r.1 * s r.2.1) * (s r.2.1 * x (h r.1)) = -(s r.1 * (s r.2.1 * s r.2.1) * x (h r.1)) by
    rw [Int.neg_mul]; congr 1; ac_rfl, this, Int.mul_one]
  omega
theorem Lab.ve (A : Lab L h s) (sg : Sgs L) {x : Int → Int} : VE L x ↔ (∀ c, x c = s c * x (h c)) ∧ ∀ k, badB L h s k = true → x k = 0 := by
  constructor
  · intro hx
    have hv := A.vec x hx
    refine ⟨hv, fun k hk => ?_⟩
    obtain ⟨r, hr, hf, rfl⟩ := badB_iff.mp hk
    have h1 := unfit_two (sg r hr) A.s1 (A.rd r hr) hf hv
    rw [hx r hr] at h1
    have h2 : s r.1 * x (h r.1) = 0 := by omega
    exact (Int.mul_eq_zero.mp h2).resolve_left (A.s1 r.1).ne
  · rintro ⟨hv, hb⟩ r hr
    cases hf : fitB s r with
    | true => exact fit_zero A.s1 (A.rd r hr) hf hv
    | false =>
      rw [unfit_two (sg r hr) A.s1 (A.rd r hr) hf hv, hb _ (badB_iff.mpr ⟨r, hr, hf, rfl⟩)]
      simp
/-- the row that stands on one piece -/
def indX (h s : Int → Int) (k : Int) : Int → Int := fun c => if h c = k then s c else 0
theorem Lab.ind (A : Lab L h s) (sg : Sgs L) {k : Int} (hk : badB L h s k = false) : VE L (indX h s k) := by
  refine (A.ve sg).mpr ⟨fun c => ?_, fun j hj => ?_⟩
  · unfold indX
    by_cases e : h c = k
    · rw [if_pos e, if_pos (by rw [A.id]; exact e), A.sh, Int.mul_one]
    · rw [if_neg e, if_neg (by rw [A.id]; exact e), Int.mul_zero]
  · unfold indX
    obtain ⟨r, hr, hf, rfl⟩ := badB_iff.mp hj
    rw [A.id, if_neg (fun e => by rw [e, hk] at hj; cases hj)]
theorem Lab.good (A : Lab L h s) (sg : Sgs L) {k : Int} (hk : h k = k) : badB L h s k = false ↔ ∃ x, VE L x ∧ x k ≠ 0 := by
  constructor
  · intro hb
    refine ⟨_, A.ind sg hb, ?_⟩
    unfold indX
    rw [if_pos hk]
    exact (A.s1 k).ne
  · rintro ⟨x, hx, hn⟩
    cases hb : badB L h s k with
    | false => rfl
    | true => exact absurd (((A.ve sg).mp hx).2 k hb) hn
/-- labels are told by the roads alone -/
theorem Lab.uniq {h' s' : Int → Int} (A : Lab L h s) (B : Lab L h' s') (c : Int) : h c = h' c := by
  have e1 : h' c = h' (h c) := A.pot h' B.rd c
  have e2 : h c = h (h' c) := B.pot h A.rd c
  have l1 := B.le (h c)
  have l2 := A.le (h' c)
  rw [← e1] at l1
  rw [← e2] at l2
  omega
theorem Lab.bad_uniq {h' s' : Int → Int} (A : Lab L h s) (B : Lab L h' s') (sg : Sgs L) {k : Int} (hk : h k = k) : badB L h s k = badB L h' s' k := by
  have hk' : h' k = k := by rw [← A.uniq B]; exact hk
  have e := (A.good sg hk).trans (B.good sg hk').symm
  cases p : badB L h s k <;> cases q : badB L h' s' k <;> simp [p, q] at e ⊢
end
/-! ### one road more -/
def ufH (h s : Int → Int) (r : Road) : Int → Int := if h r.1 = h r.2.1 then h else fun c => if h c = max (h r.1) (h r.2.1) then min (h r.1) (h r.2.1) else h c
def ufT (s : Int → Int) (r : Road) : Int := r.2.2 * s r.1 * s r.2.1
def ufS (h s : Int → Int) (r : Road) : Int → Int := if h r.1 = h r.2.1 then s else fun c => if h c = max (h r.1) (h r.2.1) then ufT s r * s c else s c
def ufP (p : (Int → Int) × (Int → Int)) (r : Road) : (Int → Int) × (Int → Int) := (ufH p.1 p.2 r, ufS p.1 p.2 r)
def uf (L : List Road) : (Int → Int) × (Int → Int) := L.foldl ufP (fun c => c, fun _ => 1)
theorem lab_nil : Lab [] (fun c => c) (fun _ => 1) where
  le := fun c => Int.le_refl _
  nn := fun c h => h
  id := fun c => rfl
  s1 := fun c => .inl rfl
  sh := fun c => rfl
  rd := fun r hr => nomatch hr
  pot := fun f _ c => rfl
  vec := fun x _ c => by rw [Int.one_mul]
section
variable {L : List Road} {h s : Int → Int} {r : Road}
theorem Lab.snoc (A : Lab L h s) (sg : Sg r.2.2) (r0 : 0 ≤ r.1 ∧ 0 ≤ r.2.1) : Lab (L ++ [r]) (ufH h s r) (ufS h s r) := by
  have vsub : ∀ {x : Int → Int}, VE (L ++ [r]) x → VE L x ∧ rdx r x = 0 := fun hx => ⟨fun q hq => hx q (List.mem_append_left _ hq), hx r (List.mem_append_right _ (List.mem_singleton.mpr rfl))⟩
  by_cases he : h r.1 = h r.2.1
  · have e1 : ufH h s r = h := by unfold ufH; rw [if_pos he]
    have e2 : ufS h s r = s := by unfold ufS; rw [if_pos he]
    rw [e1, e2]
    refine ⟨A.le, A.nn, A.id, A.s1, A.sh, fun q hq => ?_, fun f hf => A.pot f fun q hq => hf q (List.mem_append_left _ hq), fun x hx => A.vec x (vsub hx).1⟩
    rcases List.mem_append.mp hq with hq | hq
    · exact A.rd q hq
    · rw [List.mem_singleton] at hq; subst hq; exact he
  · have e1 : ufH h s r = fun c => if h c = max (h r.1) (h r.2.1) then min (h r.1) (h r.2.1) else h c := by unfold ufH; rw [if_neg he]
    have e2 : ufS h s r = fun c => if h c = max (h r.1) (h r.2.1) then ufT s r * s c else s c := by unfold ufS; rw [if_neg he]
    rw [e1, e2]
    have hn1 := A.nn _ r0.1
    have hn2 := A.nn _ r0.2
    generalize hhi : max (h r.1) (h r.2.1) = hi
    generalize hlo : min (h r.1) (h r.2.1) = lo
    have hlt : lo < hi := by omega
    have hlo0 : 0 ≤ lo := by omega
    have hhi1 : h hi = hi := by
      rcases (by omega : hi = h r.1 ∨ hi = h r.2.1) with e | e <;> rw [e] <;> exact A.id _
    have hlo1 : h lo = lo := by
      rcases (by omega : lo = h r.1 ∨ lo = h r.2.1) with e | e <;> rw [e] <;> exact A.id _
    have hor : (h r.1 = hi ∧ h r.2.1 = lo) ∨ (h r.1 = lo ∧ h r.2.1 = hi) := by omega
    have ts : Sg (ufT s r) := (sg.mul (A.s1 r.1)).mul (A.s1 r.2.1)
    have slo : s lo = 1 := by have := A.sh lo; rw [hlo1] at this; exact this
    refine ⟨fun c => ?_, fun c hc => ?_, fun c => ?_, fun c => ?_, fun c => ?_, fun q hq => ?_, fun f hf c => ?_, fun x hx c => ?_⟩
    · have := A.le c
      split <;> omega
    · have := A.nn c hc
      split <;> omega
    · skip
      by_cases e : h c = hi
      · rw [if_pos e, hlo1, if_neg (by omega)]
      · rw [if_neg e, A.id, if_neg e]
    · skip
      split
      · exact ts.mul (A.s1 c)
      · exact A.s1 c
    · skip
      by_cases e : h c = hi
      · rw [if_pos e, hlo1, if_neg (by omega)]
        exact slo
      · rw [if_neg e, A.id, if_neg e]
        exact A.sh c
    · skip
      rcases List.mem_append.mp hq with hq | hq
      · rw [A.rd q hq]
      · rw [List.mem_singleton] at hq
        subst hq
        rcases hor with ⟨a1, a2⟩ | ⟨a1, a2⟩
        · rw [if_pos a1, a2, if_neg (by omega)]
        · rw [if_pos a2, a1, if_neg (by omega)]
    · have p1 := A.pot f fun q hq => hf q (List.mem_append_left _ hq)
      have p2 := hf r (List.mem_append_right _ (List.mem_singleton.mpr rfl))
      rw [p1 r.1, p1 r.2.1] at p2
      by_cases e : h c = hi
      · rw [if_pos e, p1 c, e]
        rcases hor with ⟨a1, a2⟩ | ⟨a1, a2⟩ <;> rw [a1, a2] at p2
        · exact p2
        · exact p2.symm
      · rw [if_neg e]
        exact p1 c
    · obtain ⟨v1, v2⟩ := vsub hx
      have p1 := A.vec x v1
      by_cases e : h c = hi
      · rw [if_pos e, if_pos e, p1 c, e]
        -- the two heads
        have q : s r.1 * x (h r.1) = r.2.2 * (s r.2.1 * x (h r.2.1)) := by
          have := v2
          unfold rdx at this
          rw [p1 r.1, p1 r.2.1] at this
          omega
        have sq1 := (A.s1 r.1).sq
        have sq2 := (A.s1 r.2.1).sq
        have sq3 := sg.sq
        have key : x hi = ufT s r * x lo := by
          unfold ufT
          rcases hor with ⟨a1, a2⟩ | ⟨a1, a2⟩ <;> rw [a1, a2] at q
          · calc x hi = (s r.1 * s r.1) * x hi := by rw [sq1, Int.one_mul]
              _ = s r.1 * (s r.1 * x hi) := by ac_rfl
              _ = s r.1 * (r.2.2 * (s r.2.1 * x lo)) := by rw [q]
              _ = r.2.2 * s r.1 * s r.2.1 * x lo := by ac_rfl
          · calc x hi = (r.2.2 * r.2.2) * (s r.2.1 * s r.2.1) * x hi := by rw [sq2, sq3, Int.one_mul, Int.one_mul]
              _ = (r.2.2 * s r.2.1) * (r.2.2 * (s r.2.1 * x hi)) := by ac_rfl
              _ = (r.2.2 * s r.2.1) * (s r.1 * x lo) := by rw [q]
              _ = r.2.2 * s r.1 * s r.2.1 * x lo := by ac_rfl
        rw [key]
        ac_rfl
      · rw [if_neg e, if_neg e]
        exact p1 c
end
theorem uf_lab : ∀ (L : List Road), (∀ r ∈ L, Sg r.2.2 ∧ 0 ≤ r.1 ∧ 0 ≤ r.2.1) → Lab L (uf L).1 (uf L).2 := by
  have gen : ∀ (M L : List Road) (p : (Int → Int) × (Int → Int)), Lab L p.1 p.2 → (∀ r ∈ M, Sg r.2.2 ∧ 0 ≤ r.1 ∧ 0 ≤ r.2.1) → Lab (L ++ M) (M.foldl ufP p).1 (M.foldl ufP p).2 := by
    intro M
    induction M with
    | nil => intro L p A _; simpa using A
    | cons r M ih =>
      intro L p A hM
      obtain ⟨h1, h2, h3⟩ := hM r (by simp)
      have := ih (L ++ [r]) (ufP p r) (A.snoc h1 ⟨h2, h3⟩) fun q hq => hM q (by simp [hq])
      simpa using this
  intro L hL
  exact gen L [] _ lab_nil hL
end Pf

set_option maxRecDepth 100000
/-! M2: how many pieces are balanced is told by the rows at nought; patterns of signs. -/
namespace Pf
open Classical
/-! ### counting -/
noncomputable def cnt {α : Type} (P : α → Prop) (l : List α) : Nat := (l.filter fun a => decide (P a)).length
section
variable {α β : Type} {P Q : α → Prop}
@[simp] theorem cnt_nil : cnt P [] = 0 := rfl
theorem cnt_cons (a : α) (l : List α) : cnt P (a :: l) = (if P a then 1 else 0) + cnt P l := by
  unfold cnt
  by_cases h : P a
  · simp [h]; omega
  · simp [h]
theorem cnt_append (l m : List α) : cnt P (l ++ m) = cnt P l + cnt P m := by
  simp [cnt]
theorem cnt_congr {l : List α} (h : ∀ a ∈ l, P a ↔ Q a) : cnt P l = cnt Q l := by
  induction l with
  | nil => rfl
  | cons a l ih =>
    rw [cnt_cons, cnt_cons, ih fun b hb => h b (by simp [hb])]
    simp only [h a (by simp)]
theorem cnt_map {f : β → α} {l : List β} : cnt P (l.map f) = cnt (fun b => P (f b)) l := by
  induction l with
  | nil => rfl
  | cons a l ih => rw [List.map_cons, cnt_cons, cnt_cons, ih]
theorem cnt_false {l : List α} (h : ∀ a ∈ l, ¬ P a) : cnt P l = 0 := by
  induction l with
  | nil => rfl
  | cons a l ih => rw [cnt_cons, ih fun b hb => h b (by simp [hb]), if_neg (h a (by simp))]
theorem cnt_true {l : List α} (h : ∀ a ∈ l, P a) : cnt P l = l.length := by
  induction l with
  | nil => rfl
  | cons a l ih => rw [cnt_cons, ih fun b hb => h b (by simp [hb]), if_pos (h a (by simp)), List.length_cons]; omega
theorem cnt_or_and {l : List α} : cnt P l + cnt Q l = cnt (fun a => P a ∨ Q a) l + cnt (fun a => P a ∧ Q a) l := by
  induction l with
  | nil => rfl
  | cons a l ih =>
    simp only [cnt_cons]
    by_cases h : P a <;> by_cases k : Q a <;> simp [h, k] <;> omega
/-- one place is lost -/
theorem cnt_less {P Q : Nat → Prop} {n k : Nat} (hk : k < n) (h : ∀ j, j < n → j ≠ k → (Q j ↔ P j)) (hp : P k) (hq : ¬ Q k) : cnt Q (List.range n) + 1 = cnt P (List.range n) := by
  induction n with
  | zero => omega
  | succ n ih =>
    rw [List.range_succ, cnt_append, cnt_append, cnt_cons, cnt_cons, cnt_nil, cnt_nil]
    by_cases e : k = n
    · subst e
      rw [if_neg hq, if_pos hp, cnt_congr (Q := P) fun j hj => h j (by have := List.mem_range.mp hj; omega) (by have := List.mem_range.mp hj; omega)]
    · have := ih (by omega) fun j hj => h j (by omega)
      have e2 : (if Q n then 1 else 0) = if P n then 1 else 0 := by simp only [h n (by omega) (Ne.symm e)]
      omega
end
/-! ### pivots -/
def lead (x : Int → Int) (k : Int) : Prop := x k ≠ 0 ∧ ∀ j, 0 ≤ j → j < k → x j = 0
def piv (L : List Road) (k : Int) : Prop := ∃ x, VE L x ∧ lead x k
noncomputable def bV (n : Nat) (L : List Road) : Nat := cnt (fun (k : Nat) => piv L k) (List.range n)
theorem piv_iff {L : List Road} {h s : Int → Int} (A : Lab L h s) (sg : Sgs L) {k : Int} (k0 : 0 ≤ k) : piv L k ↔ h k = k ∧ badB L h s k = false := by
  constructor
  · rintro ⟨x, hx, h1, h2⟩
    have hk : h k = k := by
      have e := ((A.ve sg).mp hx).1 k
      have l1 := A.le k
      have l2 := A.nn k k0
      by_cases q : h k = k
      · exact q
      · have := h2 (h k) l2 (by omega)
        rw [this, Int.mul_zero] at e
        exact absurd e h1
    exact ⟨hk, (A.good sg hk).mpr ⟨x, hx, h1⟩⟩
  · rintro ⟨hk, hb⟩
    refine ⟨_, A.ind sg hb, ?_, fun j j0 j1 => ?_⟩
    · unfold indX; rw [if_pos hk]; exact (A.s1 k).ne
    · unfold indX
      rw [if_neg]
      intro e
      have := A.le j
      omega
/-- the balanced pieces, by any labels -/
theorem bV_lab {n : Nat} {L : List Road} {h s : Int → Int} (A : Lab L h s) (sg : Sgs L) : bV n L = ((List.range n).filter fun (k : Nat) => decide (h k = k) && !badB L h s k).length := by
  unfold bV
  rw [cnt_congr (Q := fun (k : Nat) => h k = k ∧ badB L h s k = false) fun k _ => piv_iff A sg (by omega)]
  unfold cnt
  congr 1
  apply List.filter_congr
  intro k _
  dsimp only
  by_cases p : h k = k
  · by_cases q : badB L h s k = true <;> simp [p, q]
  · simp [p]
theorem VE.lin {L : List Road} {x y : Int → Int} (hx : VE L x) (hy : VE L y) (a b : Int) : VE L fun c => a * x c + b * y c := fun r hr => by
  have h1 := hx r hr
  have h2 := hy r hr
  unfold rdx at *
  have e1 : x r.1 = r.2.2 * x r.2.1 := by omega
  have e2 : y r.1 = r.2.2 * y r.2.1 := by omega
  dsimp only
  rw [e1, e2]
  rw [Int.mul_add, show r.2.2 * (a * x r.2.1) = a * (r.2.2 * x r.2.1) by ac_rfl, show r.2.2 * (b * y r.2.1) = b * (r.2.2 * y r.2.1) by ac_rfl]
  omega
theorem rdx_lin (r : Road) (x y : Int → Int) (a b : Int) : rdx r (fun c => a * x c + b * y c) = a * rdx r x + b * rdx r y := by
  unfold rdx
  dsimp only
  rw [Int.mul_sub, Int.mul_sub, Int.mul_add, show r.2.2 * (a * x r.2.1) = a * (r.2.2 * x r.2.1) by ac_rfl, show r.2.2 * (b * y r.2.1) = b * (r.2.2 * y r.2.1) by ac_rfl]
  omega
theorem VE_snoc {L : List Road} {r : Road} {x : Int → Int} : VE (L ++ [r]) x ↔ VE L x ∧ rdx r x = 0 := by
  constructor
  · exact fun hx => ⟨fun q hq => hx q (List.mem_append_left _ hq), hx r (List.mem_append_right _ (List.mem_singleton.mpr rfl))⟩
  · rintro ⟨h1, h2⟩ q hq
    rcases List.mem_append.mp hq with hq | hq
    · exact h1 q hq
    · rw [List.mem_singleton] at hq; subst hq; exact h2
def triv (L : List Road) (r : Road) : Prop := ∀ x, VE L x → rdx r x = 0
theorem bV_triv {n : Nat} {L : List Road} {r : Road} (h : triv L r) : bV n (L ++ [r]) = bV n L := by
  refine cnt_congr fun k _ => ⟨?_, ?_⟩
  · rintro ⟨x, hx, hl⟩
    exact ⟨x, (VE_snoc.mp hx).1, hl⟩
  · rintro ⟨x, hx, hl⟩
    exact ⟨x, VE_snoc.mpr ⟨hx, h x hx⟩, hl⟩
/-- a last place -/
theorem last_of {Q : Nat → Prop} : ∀ {n : Nat}, (∃ k, k < n ∧ Q k) → ∃ k, k < n ∧ Q k ∧ ∀ j, k < j → j < n → ¬ Q j
  | 0, h => by obtain ⟨k, hk, _⟩ := h; omega
  | n + 1, h => by
    by_cases q : Q n
    · exact ⟨n, by omega, q, fun j _ _ => by omega⟩
    · obtain ⟨k, hk, hq⟩ := h
      have : k < n := by
        rcases Nat.lt_or_ge k n with e | e
        · exact e
        · have : k = n := by omega
          subst this
          exact absurd hq q
      obtain ⟨k', h1, h2, h3⟩ := last_of ⟨k, this, hq⟩
      refine ⟨k', by omega, h2, fun j j1 j2 => ?_⟩
      rcases Nat.lt_or_ge j n with e | e
      · exact h3 j j1 e
      · have : j = n := by omega
        rw [this]; exact q
theorem first_of {x : Int → Int} : ∀ {n : Nat}, (∃ k, k < n ∧ x (k : Nat) ≠ 0) → ∃ k, k < n ∧ lead x (k : Nat)
  | 0, h => by obtain ⟨k, hk, _⟩ := h; omega
  | n + 1, h => by
    by_cases q : ∃ k, k < n ∧ x (k : Nat) ≠ 0
    · obtain ⟨k, h1, h2⟩ := first_of q
      exact ⟨k, by omega, h2⟩
    · obtain ⟨k, hk, hx⟩ := h
      have e : k = n := by
        rcases Nat.lt_or_ge k n with e | e
        · exact absurd ⟨k, e, hx⟩ q
        · omega
      subst e
      refine ⟨k, by omega, hx, fun j j0 j1 => ?_⟩
      by_cases z : x j = 0
      · exact z
      · exact absurd ⟨j.toNat, by omega, by rw [show ((j.toNat : Nat) : Int) = j by omega]; exact z⟩ q
def InN (n : Nat) (r : Road) : Prop := (0 ≤ r.1 ∧ r.1 < n) ∧ (0 ≤ r.2.1 ∧ r.2.1 < n)
theorem bV_step {n : Nat} {L : List Road} {r : Road} (hr : InN n r) (h : ¬ triv L r) : bV n (L ++ [r]) + 1 = bV n L := by
  have nz : ∀ {x : Int → Int}, rdx r x ≠ 0 → ∃ k, k < n ∧ lead x (k : Nat) := fun {x} hx => by
    apply first_of
    by_cases e : x r.1 = 0
    · refine ⟨r.2.1.toNat, by have := hr.2; omega, ?_⟩
      rw [show ((r.2.1.toNat : Nat) : Int) = r.2.1 by have := hr.2; omega]
      intro z
      exact hx (by unfold rdx; rw [e, z]; simp)
    · refine ⟨r.1.toNat, by have := hr.1; omega, ?_⟩
      rw [show ((r.1.toNat : Nat) : Int) = r.1 by have := hr.1; omega]
      exact e
  have ex : ∃ k, k < n ∧ ∃ x, VE L x ∧ lead x (k : Nat) ∧ rdx r x ≠ 0 := by
    by_cases q : ∃ k, k < n ∧ ∃ x, VE L x ∧ lead x (k : Nat) ∧ rdx r x ≠ 0
    · exact q
    · refine absurd (fun x hx => ?_) h
      by_cases z : rdx r x = 0
      · exact z
      · obtain ⟨k, h1, h2⟩ := nz z
        exact absurd ⟨k, h1, x, hx, h2, z⟩ q
  obtain ⟨k, hk, ⟨y, hy, ly, fy⟩, hmax⟩ := last_of ex
  refine cnt_less hk (fun j hj hjk => ⟨?_, ?_⟩) ⟨y, hy, ly⟩ ?_
  · rintro ⟨x, hx, hl⟩
    exact ⟨x, (VE_snoc.mp hx).1, hl⟩
  · rintro ⟨x, hx, hl⟩
    by_cases z : rdx r x = 0
    · exact ⟨x, VE_snoc.mpr ⟨hx, z⟩, hl⟩
    · have jk : j < k := by
        rcases Nat.lt_or_ge k j with e | e
        · exact absurd ⟨x, hx, hl, z⟩ (hmax j e hj)
        · omega
      refine ⟨fun c => rdx r y * x c + (- rdx r x) * y c, VE_snoc.mpr ⟨hx.lin hy _ _, ?_⟩, ?_, fun i i0 i1 => ?_⟩
      · rw [rdx_lin, Int.neg_mul, Int.mul_comm (rdx r x)]
        omega
      · have e : y (j : Int) = 0 := ly.2 j (by omega) (by omega)
        show rdx r y * x j + (- rdx r x) * y j ≠ 0
        rw [e]
        simp [fy, hl.1]
      · show rdx r y * x i + (- rdx r x) * y i = 0
        rw [hl.2 i i0 i1, ly.2 i i0 (by omega)]
        simp
  · rintro ⟨z, hz, lz⟩
    obtain ⟨v1, v2⟩ := VE_snoc.mp hz
    have e1 : rdx r (fun c => z k * y c + (- y k) * z c) ≠ 0 := by
      rw [rdx_lin, v2]
      simp [lz.1, fy]
    obtain ⟨j, j1, j2⟩ := nz e1
    have : k < j := by
      rcases Nat.lt_or_ge k j with e | e
      · exact e
      · refine absurd ?_ j2.1
        show z k * y j + (- y k) * z j = 0
        rcases Nat.lt_or_ge j k with e' | e'
        · rw [lz.2 j (by omega) (by omega), ly.2 j (by omega) (by omega)]; simp
        · have : j = k := by omega
          subst this
          rw [Int.neg_mul, Int.mul_comm]
          omega
    exact hmax j this j1 ⟨_, hy.lin v1 _ _, j2, e1⟩
end Pf

set_option maxRecDepth 100000
/-! M3: how many patterns of signs there are. -/
namespace Pf
open Classical
def okS : List Road → List Int → (Int → Int) → Prop
  | [], [], _ => True
  | r :: A, t :: σ, x => 0 < t * rdx r x ∧ okS A σ x
  | _, _, _ => False
def real (A E : List Road) (σ : List Int) : Prop := ∃ x, VE E x ∧ okS A σ x
def signs : Nat → List (List Int)
  | 0 => [[]]
  | m + 1 => (signs m).flatMap fun σ => [1 :: σ, (-1) :: σ]
theorem cnt_signs {P : List Int → Prop} (m : Nat) : cnt P (signs (m + 1)) = cnt (fun σ => P (1 :: σ)) (signs m) + cnt (fun σ => P ((-1) :: σ)) (signs m) := by
  show cnt P ((signs m).flatMap _) = _
  generalize signs m = l
  induction l with
  | nil => rfl
  | cons a l ih =>
    rw [List.flatMap_cons, cnt_append, ih]
    simp only [cnt_cons, cnt_nil]
    omega
noncomputable def regs (A E : List Road) : Nat := cnt (real A E) (signs A.length)
/-- the alternating sum of the pieces -/
noncomputable def alt (n : Nat) (q : Int) : List Road → List Road → Int
  | [], E => q ^ bV n E
  | r :: A, E => alt n q A E - alt n q A (E ++ [r])
theorem okS_big : ∀ {A : List Road} {σ : List Int} {x : Int → Int} (u : Int → Int), okS A σ x → ∃ N0 : Int, 0 < N0 ∧ ∀ N, N0 ≤ N → okS A σ fun c => N * x c + 1 * u c
  | [], [], _, u, _ => ⟨1, by omega, fun _ _ => trivial⟩
  | [], _ :: _, _, _, h => h.elim
  | _ :: _, [], _, _, h => h.elim
  | r :: A, t :: σ, x, u, ⟨h1, h2⟩ => by
    obtain ⟨N0, p, k⟩ := okS_big u h2
    refine ⟨max N0 (1 + (t * rdx r u).natAbs), by omega, fun N hN => ⟨?_, k N (by omega)⟩⟩
    rw [rdx_lin, Int.one_mul, Int.mul_add, show t * (N * rdx r x) = N * (t * rdx r x) by ac_rfl]
    have : N * 1 ≤ N * (t * rdx r x) := Int.mul_le_mul_of_nonneg_left (by omega) (by omega)
    omega
theorem okS_mix : ∀ {A : List Road} {σ : List Int} {x y : Int → Int} {a b : Int}, 0 < a → 0 < b → okS A σ x → okS A σ y → okS A σ fun c => a * x c + b * y c
  | [], [], _, _, _, _, _, _, _, _ => trivial
  | [], _ :: _, _, _, _, _, _, _, h, _ => h.elim
  | _ :: _, [], _, _, _, _, _, _, h, _ => h.elim
  | r :: A, t :: σ, x, y, a, b, ha, hb, ⟨h1, h2⟩, ⟨k1, k2⟩ => by
    refine ⟨?_, okS_mix ha hb h2 k2⟩
    rw [rdx_lin, Int.mul_add, show t * (a * rdx r x) = a * (t * rdx r x) by ac_rfl, show t * (b * rdx r y) = b * (t * rdx r y) by ac_rfl]
    have := Int.mul_pos ha h1
    have := Int.mul_pos hb k1
    omega
section
variable {A E : List Road} {r : Road} {σ : List Int}
/-- both signs: as often as the road may stand at nought -/
theorem real_both (h : ¬ triv E r) : real (r :: A) E (1 :: σ) ∧ real (r :: A) E ((-1) :: σ) ↔ real A (E ++ [r]) σ := by
  constructor
  · rintro ⟨⟨x, hx, x1, x2⟩, ⟨y, hy, y1, y2⟩⟩
    have x1 : 0 < rdx r x := by omega
    have y1 : 0 < - rdx r y := by omega
    refine ⟨fun c => (- rdx r y) * x c + rdx r x * y c, VE_snoc.mpr ⟨hx.lin hy _ _, ?_⟩, okS_mix y1 x1 x2 y2⟩
    rw [rdx_lin, Int.neg_mul, Int.mul_comm (rdx r x)]
    omega
  · rintro ⟨x, hx, ho⟩
    obtain ⟨v1, v2⟩ := VE_snoc.mp hx
    obtain ⟨u, hu, fu⟩ : ∃ u, VE E u ∧ rdx r u ≠ 0 := by
      apply Classical.byContradiction
      intro q
      exact h fun u hu => Classical.byContradiction fun z => q ⟨u, hu, z⟩
    have both : ∀ w : Int → Int, VE E w → ∀ t : Int, 0 < t * rdx r w → real (r :: A) E (t :: σ) := fun w hw t ht => by
      obtain ⟨N0, p, k⟩ := okS_big w ho
      refine ⟨fun c => N0 * x c + 1 * w c, v1.lin hw _ _, ?_, k N0 (Int.le_refl _)⟩
      rw [rdx_lin, v2, Int.mul_zero, Int.zero_add, Int.one_mul]
      exact ht
    have hneg : VE E fun c => 0 * u c + (-1) * u c := hu.lin hu 0 (-1)
    have fneg : rdx r (fun c => 0 * u c + (-1) * u c) = - rdx r u := by rw [rdx_lin]; omega
    rcases Int.lt_or_gt_of_ne fu with q | q
    · exact ⟨both _ hneg 1 (by rw [fneg]; omega), both u hu (-1) (by omega)⟩
    · exact ⟨both u hu 1 (by omega), both _ hneg (-1) (by rw [fneg]; omega)⟩
theorem real_one (h : ¬ triv E r) : real (r :: A) E (1 :: σ) ∨ real (r :: A) E ((-1) :: σ) ↔ real A E σ := by
  constructor
  · rintro (⟨x, hx, _, x2⟩ | ⟨x, hx, _, x2⟩)
    · exact ⟨x, hx, x2⟩
    · exact ⟨x, hx, x2⟩
  · rintro ⟨x, hx, ho⟩
    rcases Int.lt_trichotomy (rdx r x) 0 with q | q | q
    · exact .inr ⟨x, hx, by omega, ho⟩
    · exact .inl ((real_both h).mpr ⟨x, VE_snoc.mpr ⟨hx, q⟩, ho⟩).1
    · exact .inl ⟨x, hx, by omega, ho⟩
theorem real_none (h : triv E r) (t : Int) : ¬ real (r :: A) E (t :: σ) := by
  rintro ⟨x, hx, x1, _⟩
  rw [h x hx, Int.mul_zero] at x1
  omega
theorem regs_step (h : ¬ triv E r) : regs (r :: A) E = regs A E + regs A (E ++ [r]) := by
  show cnt (real (r :: A) E) (signs (A.length + 1)) = cnt (real A E) (signs A.length) + cnt (real A (E ++ [r])) (signs A.length)
  rw [cnt_signs, cnt_or_and, cnt_congr fun σ _ => real_one h, cnt_congr fun σ _ => real_both h]
theorem regs_triv (h : triv E r) : regs (r :: A) E = 0 := by
  show cnt (real (r :: A) E) (signs (A.length + 1)) = 0
  rw [cnt_signs, cnt_false fun σ _ => real_none h 1, cnt_false fun σ _ => real_none h (-1)]
theorem regs_same (h : triv E r) : regs A (E ++ [r]) = regs A E :=
  cnt_congr fun σ _ => ⟨fun ⟨x, hx, ho⟩ => ⟨x, (VE_snoc.mp hx).1, ho⟩, fun ⟨x, hx, ho⟩ => ⟨x, VE_snoc.mpr ⟨hx, h x hx⟩, ho⟩⟩
end
/-- the number of patterns is the alternating sum, but for its sign -/
theorem regs_alt {n : Nat} : ∀ (A E : List Road), (∀ r ∈ A, InN n r) → ((regs A E : Nat) : Int) = (-1) ^ bV n E * alt n (-1) A E
  | [], E, _ => by
    have e : regs [] E = 1 := by
      show cnt (real [] E) [[]] = 1
      rw [cnt_cons, cnt_nil, if_pos]
      exact ⟨fun _ => 0, fun r _ => by simp [rdx], trivial⟩
    rw [e]
    show (1 : Int) = (-1) ^ bV n E * (-1) ^ bV n E
    rw [← Int.mul_pow]
    exact (Int.one_pow).symm
  | r :: A, E, h => by
    have hA : ∀ r ∈ A, InN n r := fun q hq => h q (by simp [hq])
    have i1 := regs_alt A E hA
    have i2 := regs_alt A (E ++ [r]) hA
    show _ = (-1) ^ bV n E * (alt n (-1) A E - alt n (-1) A (E ++ [r]))
    rw [Int.mul_sub]
    by_cases t : triv E r
    · rw [bV_triv t, regs_same t] at i2
      rw [regs_triv t, ← i1, ← i2]
      simp
    · have e := bV_step (n := n) (h r (by simp)) t
      have e2 : (-1 : Int) ^ bV n E = - (-1) ^ bV n (E ++ [r]) := by
        rw [← e, Int.pow_succ]
        omega
      rw [regs_step t, ← i1, e2, Int.neg_mul, ← i2]
      omega
/-- .. as a number -/
theorem regs_abs {n : Nat} {A E : List Road} (h : ∀ r ∈ A, InN n r) : (alt n (-1) A E).natAbs = regs A E := by
  have e := regs_alt A E h
  have s : (-1 : Int) ^ bV n E = 1 ∨ (-1 : Int) ^ bV n E = -1 := by
    generalize bV n E = m
    induction m with
    | zero => exact .inl rfl
    | succ m ih =>
      rw [Int.pow_succ]
      omega
  rcases s with s | s <;> rw [s] at e <;> omega
end Pf

set_option maxRecDepth 100000
/-! M4: sums over lots. -/
namespace Pf
def lotsI : Nat → List (List Int)
  | 0 => [[]]
  | m + 1 => lotsI m ++ (lotsI m).map (· ++ [(m : Int)])
def pick (rs : List Road) (lot : List Int) : List Road := lot.map fun i => rs.getD i.toNat (0, 0, 1)
theorem lots_mem : ∀ {m : Nat} {lot : List Int}, lot ∈ lotsI m → lot.length ≤ m ∧ ∀ i ∈ lot, 0 ≤ i ∧ i < m
  | 0, lot, h => by
    simp only [lotsI, List.mem_singleton] at h
    subst h
    simp
  | m + 1, lot, h => by
    simp only [lotsI, List.mem_append, List.mem_map] at h
    rcases h with h | ⟨l, h, rfl⟩
    · obtain ⟨h1, h2⟩ := lots_mem h
      exact ⟨by omega, fun i hi => by have := h2 i hi; omega⟩
    · obtain ⟨h1, h2⟩ := lots_mem h
      refine ⟨by simp; omega, fun i hi => ?_⟩
      rcases List.mem_append.mp hi with hi | hi
      · have := h2 i hi; omega
      · rw [List.mem_singleton] at hi; omega
theorem lots_len : ∀ m : Nat, (lotsI m).length = 2 ^ m
  | 0 => rfl
  | m + 1 => by
    show (lotsI m ++ (lotsI m).map _).length = _
    rw [List.length_append, List.length_map, lots_len m, Nat.pow_succ]
    omega
theorem pick_snoc {rs : List Road} {r : Road} {lot : List Int} (h : ∀ i ∈ lot, 0 ≤ i ∧ i < rs.length) : pick (rs ++ [r]) lot = pick rs lot := by
  unfold pick
  apply List.map_congr_left
  intro i hi
  have := h i hi
  rw [List.getD_eq_getElem?_getD, List.getD_eq_getElem?_getD, List.getElem?_append_left (by omega)]
theorem pick_last {rs : List Road} {r : Road} {lot : List Int} (h : ∀ i ∈ lot, 0 ≤ i ∧ i < rs.length) : pick (rs ++ [r]) (lot ++ [(rs.length : Int)]) = pick rs lot ++ [r] := by
  have e := pick_snoc (r := r) h
  unfold pick at e ⊢
  rw [List.map_append, e]
  simp
def lsum (G : List Road → Int) (rs : List Road) : Int := ((lotsI rs.length).map fun lot => G (pick rs lot)).sum
def fsum (G : List Road → Int) : List Road → Int
  | [] => G []
  | r :: A => fsum G A + fsum (fun B => G (r :: B)) A
theorem fsum_congr {G G' : List Road → Int} : ∀ {A : List Road}, (∀ B, G B = G' B) → fsum G A = fsum G' A
  | [], h => h []
  | r :: A, h => by
    show fsum G A + _ = fsum G' A + _
    rw [fsum_congr h, fsum_congr fun B => h (r :: B)]
theorem fsum_snoc (r : Road) : ∀ (A : List Road) (G : List Road → Int), fsum G (A ++ [r]) = fsum G A + fsum (fun B => G (B ++ [r])) A
  | [], G => by
    show G [] + G [r] = _
    rfl
  | x :: A, G => by
    show fsum G (A ++ [r]) + fsum (fun B => G (x :: B)) (A ++ [r]) = (fsum G A + fsum (fun B => G (x :: B)) A) + (fsum (fun B => G (B ++ [r])) A + fsum (fun B => G (x :: B ++ [r])) A)
    rw [fsum_snoc r A G, fsum_snoc r A fun B => G (x :: B)]
    have : fsum (fun B => G (x :: (B ++ [r]))) A = fsum (fun B => G (x :: B ++ [r])) A := fsum_congr fun B => rfl
    rw [this]
    omega
theorem sum_append (l m : List Int) : (l ++ m).sum = l.sum + m.sum := by
  induction l with
  | nil => simp
  | cons a l ih => simp [ih]; omega
theorem lsum_snoc (r : Road) (A : List Road) (G : List Road → Int) : lsum G (A ++ [r]) = lsum G A + lsum (fun B => G (B ++ [r])) A := by
  unfold lsum
  rw [List.length_append]
  show ((lotsI (A.length + 1)).map _).sum = _
  simp only [lotsI]
  rw [List.map_append, sum_append, List.map_map]
  congr 2
  · apply List.map_congr_left
    intro lot hl
    rw [pick_snoc (lots_mem hl).2]
  · apply List.map_congr_left
    intro lot hl
    show G (pick (A ++ [r]) (lot ++ [(A.length : Int)])) = G (pick A lot ++ [r])
    rw [pick_last (lots_mem hl).2]
theorem snoc_ind {α : Type} {P : List α → Prop} (h0 : P []) (h1 : ∀ A r, P A → P (A ++ [r])) (A : List α) : P A := by
  have : ∀ B : List α, P B.reverse := by
    intro B
    induction B with
    | nil => exact h0
    | cons r B ih => rw [List.reverse_cons]; exact h1 _ _ ih
  have := this A.reverse
  rwa [List.reverse_reverse] at this
theorem lsum_fsum (A : List Road) : ∀ G, lsum G A = fsum G A := by
  refine snoc_ind (P := fun A => ∀ G, lsum G A = fsum G A) (fun G => ?_) (fun A r ih G => ?_) A
  · simp [lsum, lotsI, pick, fsum]
  · rw [lsum_snoc, fsum_snoc, ih, ih]
theorem fsum_neg {G : List Road → Int} : ∀ {A : List Road}, fsum (fun B => - G B) A = - fsum G A
  | [] => rfl
  | r :: A => by
    show fsum (fun B => - G B) A + fsum (fun B => - G (r :: B)) A = -(fsum G A + fsum (fun B => G (r :: B)) A)
    rw [fsum_neg, fsum_neg (G := fun B => G (r :: B))]
    omega
theorem alt_fsum {n : Nat} {q : Int} : ∀ (A E : List Road), alt n q A E = fsum (fun B => (-1) ^ B.length * q ^ bV n (E ++ B)) A
  | [], E => by
    show q ^ bV n E = (-1) ^ 0 * q ^ bV n (E ++ [])
    rw [List.append_nil, Int.pow_zero, Int.one_mul]
  | r :: A, E => by
    show alt n q A E - alt n q A (E ++ [r]) = fsum _ A + fsum (fun B => (-1) ^ (r :: B).length * q ^ bV n (E ++ r :: B)) A
    have e : fsum (fun B => (-1) ^ (r :: B).length * q ^ bV n (E ++ r :: B)) A = fsum (fun B => - ((-1) ^ B.length * q ^ bV n ((E ++ [r]) ++ B))) A := fsum_congr fun B => by
      rw [List.length_cons, Int.pow_succ, List.append_assoc]
      show (-1) ^ B.length * (-1) * q ^ bV n (E ++ r :: B) = -((-1) ^ B.length * q ^ bV n (E ++ r :: B))
      rw [Int.mul_neg, Int.mul_one, Int.neg_mul]
    rw [e, fsum_neg, ← alt_fsum A E, ← alt_fsum A (E ++ [r])]
    omega
/-- the alternating sum over the lots, as the program tells it -/
theorem alt_lots {n : Nat} {q : Int} (rs : List Road) : ((lotsI rs.length).map fun lot => (-1) ^ lot.length * q ^ bV n (pick rs lot)).sum = alt n q rs [] := by
  rw [alt_fsum, ← lsum_fsum]
  unfold lsum
  congr 1
  apply List.map_congr_left
  intro lot _
  unfold pick
  dsimp only
  rw [List.length_map, List.nil_append]
end Pf

set_option maxRecDepth 100000
/-! U1: heads and sides, as the program finds them. -/
namespace Pf
open PySem
/-- a row told by a function -/
def fL (n : Nat) (f : Int → Int) : List D := (List.range n).map fun (k : Nat) => .int (f k)
@[simp] theorem fL_len (n : Nat) (f : Int → Int) : (fL n f).length = n := by simp [fL]
theorem fL_at {n : Nat} {f : Int → Int} {a : Int} (h0 : 0 ≤ a) (h1 : a < n) : L2.atI (fL n f) a = some (.int (f a)) := by
  have e : L2.atI (fL n f) ((a.toNat : Nat) : Int) = some (.int (f a)) := by
    refine L2.atI_nat ?_
    unfold fL
    rw [List.getElem?_map, List.getElem?_range (by omega)]
    simp only [Option.map_some]
    rw [show ((a.toNat : Nat) : Int) = a by omega]
  rwa [show ((a.toNat : Nat) : Int) = a by omega] at e
theorem fL_set {n : Nat} {f : Int → Int} {k : Nat} {v : Int} : (fL n f).set k (.int v) = fL n fun c => if c = (k : Int) then v else f c := by
  apply List.ext_getElem
  · simp
  · intro i h1 h2
    simp only [fL, List.getElem_set, List.getElem_map, List.getElem_range]
    by_cases e : k = i
    · simp [e]
    · simp [e]
      intro z
      omega
theorem fL_congr {n : Nat} {f g : Int → Int} (h : ∀ c : Int, 0 ≤ c → c < n → f c = g c) : fL n f = fL n g := by
  unfold fL
  apply List.map_congr_left
  intro k hk
  have := List.mem_range.mp hk
  rw [h k (by omega) (by omega)]
theorem ixN_in {n : Nat} {a : Int} (h0 : 0 ≤ a) (h1 : a < n) : L2.ixN n a = some a.toNat := by
  simp only [L2.ixN]
  rw [if_pos h0, if_pos h1]
theorem road_at {rs : List Road} {i : Int} (h0 : 0 ≤ i) (h1 : i < rs.length) : evIdx (.tuple (rs.map rdD)) (.int i) = some (rdD (rs.getD i.toNat (0, 0, 1))) := by
  show L2.atI (rs.map rdD) i = _
  have e : L2.atI (rs.map rdD) ((i.toNat : Nat) : Int) = some (rdD (rs.getD i.toNat (0, 0, 1))) := by
    refine L2.atI_nat ?_
    rw [List.getElem?_map, List.getD_eq_getElem?_getD]
    rw [List.getElem?_eq_getElem (by omega)]
    rfl
  rwa [show ((i.toNat : Nat) : Int) = i by omega] at e
def l_has1 : Sms := (.cons (.ite (.op2 .eq (.idx (.var 2) (.var 12)) (.var 10)) (.cons (.asgX [(.ix 2 (.var 12)), (.ix 3 (.var 12))] (.cons (.var 9) (.cons (.op2 .mul (.var 11) (.idx (.var 3) (.var 12))) .nil))) .nil) .nil) .nil)
def l_has2 : Sms := (.cons (.asgT (.tup [(.name 6), (.name 7), (.name 8)]) (.idx (.idx (.var 0) (.cst (.int 1))) (.var 5))) (.cons (.ite (.op2 .ne (.idx (.var 2) (.var 6)) (.idx (.var 2) (.var 7))) (.cons (.app 4 (.var 5)) (.cons (.asgN [9, 10] (.cons (.bi .min2 (.cons (.idx (.var 2) (.var 6)) (.cons (.idx (.var 2) (.var 7)) .nil))) (.cons (.bi .max2 (.cons (.idx (.var 2) (.var 6)) (.cons (.idx (.var 2) (.var 7)) .nil))) .nil))) (.cons (.set 11 (.op2 .mul (.op2 .mul (.var 8) (.idx (.var 3) (.var 6))) (.idx (.var 3) (.var 7)))) (.cons (.for [12] (.name 12) (.rng1 (.idx (.var 0) (.cst (.int 0)))) l_has1) .nil)))) .nil) .nil))
def b_has : Sms := (.cons (.asgN [2, 3, 4] (.cons (.rngL false .nop (.idx (.var 0) (.cst (.int 0)))) (.cons (.op2 .mul (.lst (.cons (.cst (.int 1)) .nil)) (.idx (.var 0) (.cst (.int 0)))) (.cons (.lst .nil) .nil)))) (.cons (.for [5, 6, 7, 8, 9, 10, 11, 12] (.name 5) (.seq (.var 1)) l_has2) (.cons (.ret (.tup (.cons (.var 2) (.cons (.var 3) (.cons (.var 4) .nil))))) .nil)))
/-- the roads that join -/
def ufF (p : (Int → Int) × (Int → Int)) (fo : List Int) (rs : List Road) (i : Int) : List Int := if p.1 (rs.getD i.toNat (0, 0, 1)).1 = p.1 (rs.getD i.toNat (0, 0, 1)).2.1 then fo else fo ++ [i]
/-- a state of the inner loop -/
abbrev hasS (n : Nat) (rs : List Road) (A B C E F G : Sl) (lo hi t : Int) (h s : Int → Int) (x : Sl) : St := ⟨[.dat (frD n rs), A, .lst (fL n h), .lst (fL n s), B, C, E, F, G, .dat (.int lo), .dat (.int hi), .dat (.int t), x], none⟩
section
variable {Γ : Nat → Fn} {n : Nat} {rs : List Road}
theorem hasS_congr {A B C E F G : Sl} {lo hi t : Int} {h s h' s' : Int → Int} {x : Sl} (e1 : ∀ c : Int, 0 ≤ c → c < n → h c = h' c) (e2 : ∀ c : Int, 0 ≤ c → c < n → s c = s' c) : hasS n rs A B C E F G lo hi t h s x = hasS n rs A B C E F G lo hi t h' s' x := by
  unfold hasS
  rw [fL_congr e1, fL_congr e2]
theorem rng_idx {st : St} {i j m : Nat} {fr : D} (h : st.get i = .dat fr) (e : evIdx fr (.int j) = some (.int m)) (hm : m ≤ 16777216) : evalI Γ (.rng1 (.idx (.var i) (.cst (.int j)))) st = some (rngN m, st) := by
  have h2 : m < 4611686018427387904 := by omega
  have h1 : (m : Int) ≤ 16777216 := by omega
  simp [evalI, h, e, h1, h2, rngN]
theorem rngN_at {m i : Nat} {d : D} (h : (rngN m)[i]? = some d) : i < m ∧ d = .int i := by
  have hi : i < m := by
    have := (List.getElem?_eq_some_iff.mp h).1
    simpa [rngN] using this
  simp only [rngN, List.getElem?_map, List.getElem?_range hi, Option.map_some, Option.some.injEq] at h
  exact ⟨hi, h.symm⟩
theorem has_inner {A B C E F G : Sl} {h s : Int → Int} {hi lo t : Int} (tS : Sg t) (hn : n ≤ 1000) (ss : Sms) (P : Out → Prop)
    (k : Nx Γ ss (hasS n rs A B C E F G lo hi t (fun c => if h c = hi then lo else h c) (fun c => if h c = hi then t * s c else s c) .un) P) :
    Nx Γ (.cons (.for [12] (.name 12) (.rng1 (.idx (.var 0) (.cst (.int 0)))) l_has1) ss) (hasS n rs A B C E F G lo hi t h s .un) P := by
  have ts := sign_small tS
  have hI : evalI Γ (.rng1 (.idx (.var 0) (.cst (.int 0)))) (hasS n rs A B C E F G lo hi t h s .un) = some (rngN n, hasS n rs A B C E F G lo hi t h s .un) := rng_idx (m := n) rfl rfl (by omega)
  refine nx_loop (I := fun i st => st = hasS n rs A B C E F G lo hi t (fun c => if c < (i : Int) ∧ h c = hi then lo else h c) (fun c => if c < (i : Int) ∧ h c = hi then t * s c else s c) .un) hI ?_ ?_ ?_
  · exact hasS_congr (fun c c0 _ => (if_neg (by omega)).symm) (fun c c0 _ => (if_neg (by omega)).symm)
  · rintro i d s0 hd rfl
    obtain ⟨hi', rfl⟩ := rngN_at hd
    refine ⟨_, bindT_name _ _ _, ?_⟩
    have a1 : L2.atI (fL n fun c => if c < (i : Int) ∧ h c = hi then lo else h c) (i : Int) = some (.int (h i)) := by
      rw [fL_at (by omega) (by omega), if_neg (by omega)]
    have a2 : L2.atI (fL n fun c => if c < (i : Int) ∧ h c = hi then t * s c else s c) (i : Int) = some (.int (s i)) := by
      rw [fL_at (by omega) (by omega), if_neg (by omega)]
    have nx : L2.ixN n (i : Int) = some i := by
      have := ixN_in (n := n) (a := i) (by omega) (by omega)
      simpa using this
    show Nx Γ _ (hasS n rs A B C E F G lo hi t _ _ (.dat (.int i))) _
    by_cases e : h i = hi
    · refine nx_yes (st1 := hasS n rs A B C E F G lo hi t (fun c => if c < (i : Int) ∧ h c = hi then lo else h c) (fun c => if c < (i : Int) ∧ h c = hi then t * s c else s c) (.dat (.int i))) ?_ ?_
      · simp [evIdx, a1, evEq_int, e]
      · refine nx_step (st1 := ⟨[.dat (frD n rs), A, .lst ((fL n fun c => if c < (i : Int) ∧ h c = hi then lo else h c).set i (.int lo)), .lst ((fL n fun c => if c < (i : Int) ∧ h c = hi then t * s c else s c).set i (.int (t * s i))), B, C, E, F, G, .dat (.int lo), .dat (.int hi), .dat (.int t), .dat (.int i)], none⟩) ?_ ?_
        · simp [evIdx, a2, ts, nx]
        · refine nx_nil (nx_nil ⟨_, .inl rfl, ?_⟩)
          rw [fL_set, fL_set]
          show hasS n rs A B C E F G lo hi t _ _ .un = _
          refine hasS_congr (fun c c0 c1 => ?_) fun c c0 c1 => ?_
          · by_cases q : c = i
            · rw [if_pos q, if_pos ⟨by omega, by rw [q]; exact e⟩]
            · rw [if_neg q]
              by_cases q2 : c < i ∧ h c = hi
              · rw [if_pos q2, if_pos ⟨by omega, q2.2⟩]
              · rw [if_neg q2, if_neg (fun z => q2 ⟨by omega, z.2⟩)]
          · by_cases q : c = i
            · rw [if_pos q, if_pos ⟨by omega, by rw [q]; exact e⟩, q]
            · rw [if_neg q]
              by_cases q2 : c < i ∧ h c = hi
              · rw [if_pos q2, if_pos ⟨by omega, q2.2⟩]
              · rw [if_neg q2, if_neg (fun z => q2 ⟨by omega, z.2⟩)]
    · refine nx_skip (st1 := hasS n rs A B C E F G lo hi t (fun c => if c < (i : Int) ∧ h c = hi then lo else h c) (fun c => if c < (i : Int) ∧ h c = hi then t * s c else s c) (.dat (.int i))) ?_ ?_
      · simp [evIdx, a1, evEq_int, e]
      · refine nx_nil ⟨_, .inl rfl, ?_⟩
        show hasS n rs A B C E F G lo hi t _ _ .un = _
        refine hasS_congr (fun c c0 c1 => ?_) fun c c0 c1 => ?_
        · by_cases q2 : c < i ∧ h c = hi
          · rw [if_pos q2, if_pos ⟨by omega, q2.2⟩]
          · rw [if_neg q2, if_neg (fun z => ?_)]
            by_cases q : c = i
            · rw [q] at z; exact e z.2
            · exact q2 ⟨by omega, z.2⟩
        · by_cases q2 : c < i ∧ h c = hi
          · rw [if_pos q2, if_pos ⟨by omega, q2.2⟩]
          · rw [if_neg q2, if_neg (fun z => ?_)]
            by_cases q : c = i
            · rw [q] at z; exact e z.2
            · exact q2 ⟨by omega, z.2⟩
  · rintro st' rfl
    have hl : (rngN n).length = n := by simp [rngN]
    rw [hl]
    rw [hasS_congr (h' := fun c => if h c = hi then lo else h c) (s' := fun c => if h c = hi then t * s c else s c) (fun c c0 c1 => by simp [c1]) (fun c c0 c1 => by simp [c1])]
    exact k
/-- a turn of the outer loop -/
def hasQ (rs : List Road) (q : ((Int → Int) × (Int → Int)) × List Int) (i : Int) : ((Int → Int) × (Int → Int)) × List Int := (ufP q.1 (rs.getD i.toNat (0, 0, 1)), ufF q.1 q.2 rs i)
theorem hasQ_uf (rs : List Road) : ∀ (lot : List Int) (q : ((Int → Int) × (Int → Int)) × List Int), (lot.foldl (hasQ rs) q).1 = (pick rs lot).foldl ufP q.1
  | [], q => rfl
  | i :: lot, q => by
    show (lot.foldl (hasQ rs) (hasQ rs q i)).1 = (pick rs lot).foldl ufP (ufP q.1 (rs.getD i.toNat (0, 0, 1)))
    rw [hasQ_uf rs lot]
    rfl
def q0 : ((Int → Int) × (Int → Int)) × List Int := ((fun c => c, fun _ => 1), [])
/-- the roads that join pieces -/
def forest (rs : List Road) (lot : List Int) : List Int := (lot.foldl (hasQ rs) q0).2
/-- a state of the outer loop -/
abbrev hasO (n : Nat) (rs : List Road) (lot : List Int) (q : ((Int → Int) × (Int → Int)) × List Int) (x : Sl) : St := ⟨[.dat (frD n rs), .dat (tI lot), .lst (fL n q.1.1), .lst (fL n q.1.2), .lst (q.2.map .int), x, .un, .un, .un, .un, .un, .un, .un], none⟩
def Good (n : Nat) (rs : List Road) : Prop := ∀ r ∈ rs, RoadOk n r
theorem Good.at (g : Good n rs) {i : Int} (h0 : 0 ≤ i) (h1 : i < rs.length) : RoadOk n (rs.getD i.toNat (0, 0, 1)) := by
  rw [List.getD_eq_getElem?_getD, List.getElem?_eq_getElem (by omega)]
  exact g _ (List.getElem_mem _)
/-- what the sides keep through the turns -/
structure QOk (n : Nat) (q : ((Int → Int) × (Int → Int)) × List Int) (i : Nat) : Prop where
  s1 : ∀ c, Sg (q.1.2 c)
  fo : q.2.length ≤ i
theorem QOk.step {q : ((Int → Int) × (Int → Int)) × List Int} {i : Nat} {j : Int} (h : QOk n q i) (sg : Sg (rs.getD j.toNat (0, 0, 1)).2.2) : QOk n (hasQ rs q j) (i + 1) := by
  refine ⟨fun c => ?_, ?_⟩
  · show Sg (ufS q.1.1 q.1.2 _ c)
    unfold ufS
    split
    · exact h.s1 c
    · dsimp only
      split
      · exact ((sg.mul (h.s1 _)).mul (h.s1 _)).mul (h.s1 c)
      · exact h.s1 c
  · show (ufF q.1 q.2 rs j).length ≤ i + 1
    have := h.fo
    unfold ufF
    split
    · omega
    · simp; omega
theorem has_turn (g : Good n rs) (hn : n ≤ 1000) {lot : List Int} {q : ((Int → Int) × (Int → Int)) × List Int} {i : Nat} {j : Int} (h : QOk n q i) (hi : i ≤ 1000) (j0 : 0 ≤ j) (j1 : j < rs.length) :
    Nx Γ l_has2 (hasO n rs lot q (.dat (.int j))) fun o => ∃ s2, (o = .nx s2 ∨ o = .ct s2) ∧ clear [5, 6, 7, 8, 9, 10, 11, 12] s2 = hasO n rs lot (hasQ rs q j) .un := by
  obtain ⟨ra, rb, rsg⟩ := g.at j0 j1
  generalize hr : rs.getD j.toNat (0, 0, 1) = r at ra rb rsg
  have e1 : evIdx (.tuple (rs.map rdD)) (.int j) = some (rdD r) := by rw [road_at j0 j1, hr]
  have a1 : L2.atI (fL n q.1.1) r.1 = some (.int (q.1.1 r.1)) := fL_at ra.1 ra.2
  have a2 : L2.atI (fL n q.1.1) r.2.1 = some (.int (q.1.1 r.2.1)) := fL_at rb.1 rb.2
  have a3 : L2.atI (fL n q.1.2) r.1 = some (.int (q.1.2 r.1)) := fL_at ra.1 ra.2
  have a4 : L2.atI (fL n q.1.2) r.2.1 = some (.int (q.1.2 r.2.1)) := fL_at rb.1 rb.2
  have hq : hasQ rs q j = (ufP q.1 r, ufF q.1 q.2 rs j) := by unfold hasQ; rw [hr]
  unfold l_has2
  refine nx_step (st1 := ⟨[.dat (frD n rs), .dat (tI lot), .lst (fL n q.1.1), .lst (fL n q.1.2), .lst (q.2.map .int), .dat (.int j), .dat (.int r.1), .dat (.int r.2.1), .dat (.int r.2.2), .un, .un, .un, .un], none⟩) ?_ ?_
  · simp [e1, rdD]
  by_cases e : q.1.1 r.1 = q.1.1 r.2.1
  · refine nx_skip (st1 := ⟨[.dat (frD n rs), .dat (tI lot), .lst (fL n q.1.1), .lst (fL n q.1.2), .lst (q.2.map .int), .dat (.int j), .dat (.int r.1), .dat (.int r.2.1), .dat (.int r.2.2), .un, .un, .un, .un], none⟩) ?_ (nx_nil ⟨_, .inl rfl, ?_⟩)
    · simp [evIdx, a1, a2, evEq_int, e]
    · rw [hq]
      unfold ufP ufH ufS ufF
      rw [if_pos e, if_pos e, hr, if_pos e]
      simp [clear, unAt]
  · have t1 := sign_small rsg
    have t2 : smallI (r.2.2 * q.1.2 r.1) = true := sign_small (Sg.mul rsg (h.s1 _))
    have sz : q.2.length < sizeLine := by rw [sizeLine_eq]; have := h.fo; omega
    refine nx_yes (st1 := ⟨[.dat (frD n rs), .dat (tI lot), .lst (fL n q.1.1), .lst (fL n q.1.2), .lst (q.2.map .int), .dat (.int j), .dat (.int r.1), .dat (.int r.2.1), .dat (.int r.2.2), .un, .un, .un, .un], none⟩) ?_ ?_
    · simp [evIdx, a1, a2, evEq_int, e]
    refine nx_step (st1 := ⟨[.dat (frD n rs), .dat (tI lot), .lst (fL n q.1.1), .lst (fL n q.1.2), .lst ((q.2 ++ [j]).map .int), .dat (.int j), .dat (.int r.1), .dat (.int r.2.1), .dat (.int r.2.2), .un, .un, .un, .un], none⟩) ?_ ?_
    · simp [sz]
    refine nx_step (st1 := ⟨[.dat (frD n rs), .dat (tI lot), .lst (fL n q.1.1), .lst (fL n q.1.2), .lst ((q.2 ++ [j]).map .int), .dat (.int j), .dat (.int r.1), .dat (.int r.2.1), .dat (.int r.2.2), .dat (.int (min (q.1.1 r.1) (q.1.1 r.2.1))), .dat (.int (max (q.1.1 r.1) (q.1.1 r.2.1))), .un, .un], none⟩) ?_ ?_
    · have m1 : (if q.1.1 r.2.1 < q.1.1 r.1 then q.1.1 r.2.1 else q.1.1 r.1) = min (q.1.1 r.1) (q.1.1 r.2.1) := by split <;> omega
      have m2 : (if q.1.1 r.1 < q.1.1 r.2.1 then q.1.1 r.2.1 else q.1.1 r.1) = max (q.1.1 r.1) (q.1.1 r.2.1) := by split <;> omega
      simp [evIdx, a1, a2, m1, m2]
    refine nx_step (st1 := ⟨[.dat (frD n rs), .dat (tI lot), .lst (fL n q.1.1), .lst (fL n q.1.2), .lst ((q.2 ++ [j]).map .int), .dat (.int j), .dat (.int r.1), .dat (.int r.2.1), .dat (.int r.2.2), .dat (.int (min (q.1.1 r.1) (q.1.1 r.2.1))), .dat (.int (max (q.1.1 r.1) (q.1.1 r.2.1))), .dat (.int (ufT q.1.2 r)), .un], none⟩) ?_ ?_
    · simp [evIdx, a3, a4, t1, t2, ufT]
    refine has_inner (hi := max (q.1.1 r.1) (q.1.1 r.2.1)) (lo := min (q.1.1 r.1) (q.1.1 r.2.1)) (t := ufT q.1.2 r) ((Sg.mul rsg (h.s1 _)).mul (h.s1 _)) hn _ _ (nx_nil (nx_nil ⟨_, .inl rfl, ?_⟩))
    rw [hq]
    unfold ufP ufH ufS ufF
    rw [if_neg e, if_neg e, hr, if_neg e]
    rfl
theorem has_run (g : Good n rs) (hn : n ≤ 1000) {lot : List Int} (hl : lot.length ≤ 1000) (hlot : ∀ i ∈ lot, 0 ≤ i ∧ i < rs.length) :
    runP Γ 11 b_has [frD n rs, tI lot] = some (.dat (.tuple [.list (fL n (uf (pick rs lot)).1), .list (fL n (uf (pick rs lot)).2), .list ((forest rs lot).map .int)])) := by
  have main : Nx Γ b_has ⟨[.dat (frD n rs), .dat (tI lot), .un, .un, .un, .un, .un, .un, .un, .un, .un, .un, .un], none⟩ fun o => ∃ st', o = .rt (.dat (.tuple [.list (fL n (uf (pick rs lot)).1), .list (fL n (uf (pick rs lot)).2), .list ((forest rs lot).map .int)])) st' := by
    unfold b_has
    have r1 : rgOk 0 (n : Int) = true := by
      unfold rgOk
      simp only [Bool.and_eq_true, decide_eq_true_eq]
      omega
    have e1 : rgD 0 (n : Int) = fL n fun c => c := by simp [rgD, fL]
    have e2 := mul_rep (.int 1) (m := n) (by omega)
    have e3 : List.replicate n (PyData.int 1) = fL n fun _ => 1 := by
      unfold fL
      rw [List.map_const']
      simp
    rw [e3] at e2
    refine nx_step (st1 := hasO n rs lot q0 .un) ?_ ?_
    · simp [r1, e1, e2, q0]
    have hI : evalI Γ (.seq (.var 1)) (hasO n rs lot q0 .un) = some (lot.map .int, hasO n rs lot q0 .un) := by simp [evalI]
    refine nx_loop (I := fun i st => i ≤ lot.length ∧ QOk n ((lot.take i).foldl (hasQ rs) q0) i ∧ st = hasO n rs lot ((lot.take i).foldl (hasQ rs) q0) .un) hI ⟨by omega, ⟨fun c => .inl rfl, by simp [q0]⟩, rfl⟩ ?_ ?_
    · rintro i d s0 hd ⟨hi, hq, rfl⟩
      have hlt : i < lot.length := by
        have := (List.getElem?_eq_some_iff.mp hd).1
        simpa using this
      rw [List.getElem?_map, List.getElem?_eq_getElem hlt] at hd
      simp only [Option.map_some, Option.some.injEq] at hd
      subst hd
      refine ⟨_, bindT_name _ _ _, ?_⟩
      obtain ⟨j0, j1⟩ := hlot lot[i] (List.getElem_mem hlt)
      obtain ⟨o, e, s2, h1, h2⟩ := has_turn (Γ := Γ) g hn (lot := lot) hq (by omega) j0 j1
      have tk : (lot.take (i + 1)).foldl (hasQ rs) q0 = hasQ rs ((lot.take i).foldl (hasQ rs) q0) lot[i] := by
        rw [List.take_succ_eq_append_getElem hlt, List.foldl_append]
        rfl
      refine ⟨o, e, s2, h1, by omega, ?_, ?_⟩
      · rw [tk]
        exact hq.step (g.at j0 j1).2.2
      · rw [tk, h2]
    · rintro st' ⟨_, _, rfl⟩
      rw [List.length_map, List.take_length]
      refine nx_rt (st1 := ⟨[.dat (frD n rs), .dat (tI lot), .dat (.list (fL n (lot.foldl (hasQ rs) q0).1.1)), .dat (.list (fL n (lot.foldl (hasQ rs) q0).1.2)), .dat (.list ((lot.foldl (hasQ rs) q0).2.map .int)), .un, .un, .un, .un, .un, .un, .un, .un], none⟩) (r := .dat (.tuple [.list (fL n (uf (pick rs lot)).1), .list (fL n (uf (pick rs lot)).2), .list ((forest rs lot).map .int)])) ?_ ⟨_, rfl⟩
      have := hasQ_uf rs lot q0
      have e : (lot.foldl (hasQ rs) q0).1 = uf (pick rs lot) := this
      simp [← e, forest]
  obtain ⟨o, e, st', rfl⟩ := main
  exact runP_rt e
end
end Pf

set_option maxRecDepth 100000
/-! U2: pieces, sides, unfit roads, marks. -/
namespace Pf
open PySem
def sfun (ss : List Int) : Int → Int := fun c => ss.getD c.toNat 0
def sideL (n : Nat) (s : Int → Int) : List Int := (List.range n).map fun (k : Nat) => s k
theorem fL_ints (n : Nat) (s : Int → Int) : fL n s = (sideL n s).map .int := by
  simp [fL, sideL]
theorem sfun_side {n : Nat} {s : Int → Int} {c : Int} (h0 : 0 ≤ c) (h1 : c < n) : sfun (sideL n s) c = s c := by
  unfold sfun sideL
  rw [List.getD_eq_getElem?_getD, List.getElem?_map, List.getElem?_range (by omega)]
  simp only [Option.map_some, Option.getD_some]
  rw [show ((c.toNat : Nat) : Int) = c by omega]
/-- a frame within the bounds -/
structure FrOk (n : Nat) (rs : List Road) : Prop where
  n0 : 1 ≤ n
  n1 : n ≤ 1000
  m1 : rs.length ≤ 1000
  g : Good n rs
structure LotOk (rs : List Road) (lot : List Int) : Prop where
  len : lot.length ≤ 1000
  ix : ∀ i ∈ lot, 0 ≤ i ∧ i < rs.length
def roadOf (rs : List Road) (i : Int) : Road := rs.getD i.toNat (0, 0, 1)
section
variable {Γ Γ' : Nat → Fn} {n : Nat} {rs : List Road} {lot : List Int}
theorem pick_mem (L : LotOk rs lot) {r : Road} (h : r ∈ pick rs lot) : r ∈ rs := by
  obtain ⟨i, hi, rfl⟩ := List.mem_map.mp h
  obtain ⟨h0, h1⟩ := L.ix i hi
  rw [List.getD_eq_getElem?_getD, List.getElem?_eq_getElem (by omega)]
  exact List.getElem_mem _
theorem roadOf_ok (F : FrOk n rs) {i : Int} (h0 : 0 ≤ i) (h1 : i < rs.length) : RoadOk n (roadOf rs i) := F.g.at h0 h1
theorem pick_lab (F : FrOk n rs) (L : LotOk rs lot) : Lab (pick rs lot) (uf (pick rs lot)).1 (uf (pick rs lot)).2 := uf_lab _ fun r hr => by
  have := F.g r (pick_mem L hr)
  exact ⟨this.2.2, this.1.1, this.2.1.1⟩
theorem pick_sgs (F : FrOk n rs) (L : LotOk rs lot) : Sgs (pick rs lot) := fun r hr => (F.g r (pick_mem L hr)).2.2
/-! does_fit -/
def b_fit : Sms := (.cons (.asgT (.tup [(.name 2), (.name 3), (.name 4)]) (.var 0)) (.cons (.ret (.op2 .eq (.var 4) (.op2 .mul (.idx (.var 1) (.var 2)) (.idx (.var 1) (.var 3))))) .nil))
def AllSg (ss : List Int) : Prop := ∀ x ∈ ss, Sg x
theorem AllSg.at {ss : List Int} (h : AllSg ss) {c : Int} (h0 : 0 ≤ c) (h1 : c < ss.length) : Sg (sfun ss c) := by
  unfold sfun
  rw [List.getD_eq_getElem?_getD, List.getElem?_eq_getElem (by omega)]
  exact h _ (List.getElem_mem _)
structure HasFit (Γ : Nat → Fn) (p : Nat) : Prop where
  run : ∀ (r : Road) (ss : List Int), RoadOk ss.length r → AllSg ss → (Γ p).runP [rdD r, tI ss] = some (.dat (.bool (fitB (sfun ss) r)))
theorem fit_run {r : Road} {ss : List Int} (hr : RoadOk ss.length r) (hs : AllSg ss) : runP Γ 3 b_fit [rdD r, tI ss] = some (.dat (.bool (fitB (sfun ss) r))) := by
  obtain ⟨⟨a0, a1⟩, ⟨b0, b1⟩, sg⟩ := hr
  have e1 := atI_map (xs := ss) a0 a1
  have e2 := atI_map (xs := ss) b0 b1
  have e3 : smallI (ss.getD r.1.toNat 0) = true := sign_small (hs.at a0 a1)
  refine runP_rt (st := ⟨[.dat (rdD r), .dat (tI ss), .dat (.int r.1), .dat (.int r.2.1), .dat (.int r.2.2)], none⟩) ?_
  show execs Γ b_fit ⟨[.dat (rdD r), .dat (tI ss), .un, .un, .un], none⟩ = _
  unfold b_fit
  refine (execs_nx (st' := ⟨[.dat (rdD r), .dat (tI ss), .dat (.int r.1), .dat (.int r.2.1), .dat (.int r.2.2)], none⟩) (by simp [rdD])).trans (execs_rt ?_)
  simp [evIdx, tI, e1, e2, e3, evEq_int, fitB, sfun, -List.getD_eq_getElem?_getD]
  rfl
theorem hasFit {p : Nat} (h : Γ p = .pure (runP Γ' 3 b_fit)) : HasFit Γ p := ⟨fun r ss h1 h2 => by rw [h]; exact fit_run h1 h2⟩
/-! heads_and_sides -/
structure HasUf (Γ : Nat → Fn) (p : Nat) : Prop where
  run : ∀ (n : Nat) (rs : List Road) (lot : List Int), FrOk n rs → LotOk rs lot → (Γ p).runP [frD n rs, tI lot] = some (.dat (.tuple [.list (fL n (uf (pick rs lot)).1), .list (fL n (uf (pick rs lot)).2), .list ((forest rs lot).map .int)]))
theorem hasUf {p : Nat} (h : Γ p = .pure (runP Γ' 11 b_has)) : HasUf Γ p := ⟨fun n rs lot F L => by rw [h]; exact has_run F.g F.n1 L.len L.ix⟩
/-! told_sides -/
def b_told (p : Nat) : Sms := (.cons (.ret (.bi .tuple (.cons (.idx (.call p (.cons (.var 0) (.cons (.var 1) .nil))) (.cst (.int 1))) .nil))) .nil)
def toldL (n : Nat) (rs : List Road) (lot : List Int) : List Int := sideL n (uf (pick rs lot)).2
structure HasTold (Γ : Nat → Fn) (p : Nat) : Prop where
  run : ∀ (n : Nat) (rs : List Road) (lot : List Int), FrOk n rs → LotOk rs lot → (Γ p).runP [frD n rs, tI lot] = some (.dat (tI (toldL n rs lot)))
theorem hasTold {p q : Nat} (h : Γ p = .pure (runP Γ' 0 (b_told q))) (hq : HasUf Γ' q) : HasTold Γ p := ⟨fun n rs lot F L => by
  rw [h]
  refine runP_rt (st := ⟨[.dat (frD n rs), .dat (tI lot)], none⟩) ?_
  show execs Γ' (b_told q) ⟨[.dat (frD n rs), .dat (tI lot)], none⟩ = _
  unfold b_told
  refine execs_rt ?_
  have e : PyData.tuple (fL n (uf (pick rs lot)).2) = tI (toldL n rs lot) := by simp [tI, toldL, fL_ints]
  simp [hq.run n rs lot F L, evIdx, L2.atI, L2.ixN, e]⟩
/-! lot_pieces -/
def c_pieces1 : Ex := (.comp [4] (.name 4) (.rng1 (.idx (.var 0) (.cst (.int 0)))) (.op2 .eq (.idx (.var 2) (.var 4)) (.var 3)) (.var 4))
def c_pieces2 : Ex := (.comp [3] (.name 3) (.rng1 (.idx (.var 0) (.cst (.int 0)))) (.op2 .eq (.idx (.var 2) (.var 3)) (.var 3)) (.bi .tuple (.cons c_pieces1 .nil)))
def b_pieces (p : Nat) : Sms := (.cons (.set 2 (.idx (.call p (.cons (.var 0) (.cons (.var 1) .nil))) (.cst (.int 0)))) (.cons (.ret (.bi .tuple (.cons c_pieces2 .nil))) .nil))
def rngZ (n : Nat) : List Int := (List.range n).map fun (k : Nat) => (k : Int)
theorem rngN_ints (n : Nat) : rngN n = (rngZ n).map .int := by simp [rngN, rngZ]
theorem rngZ_mem {n : Nat} {c : Int} (h : c ∈ rngZ n) : 0 ≤ c ∧ c < n := by
  obtain ⟨k, hk, rfl⟩ := List.mem_map.mp h
  have := List.mem_range.mp hk
  omega
/-- the crossings of the piece at k, the pieces' heads -/
def memL (n : Nat) (h : Int → Int) (k : Int) : List Int := (rngZ n).filter fun c => decide (h c = k)
def headL (n : Nat) (h : Int → Int) : List Int := (rngZ n).filter fun k => decide (h k = k)
def headsOf (rs : List Road) (lot : List Int) : Int → Int := (uf (pick rs lot)).1
def sidesOf (rs : List Road) (lot : List Int) : Int → Int := (uf (pick rs lot)).2
def piecesL (n : Nat) (rs : List Road) (lot : List Int) : List (List Int) := (headL n (headsOf rs lot)).map (memL n (headsOf rs lot))
structure HasPieces (Γ : Nat → Fn) (p : Nat) : Prop where
  run : ∀ (n : Nat) (rs : List Road) (lot : List Int), FrOk n rs → LotOk rs lot → (Γ p).runP [frD n rs, tI lot] = some (.dat (.tuple ((piecesL n rs lot).map tI)))
theorem hasPieces {p q : Nat} (h : Γ p = .pure (runP Γ' 3 (b_pieces q))) (hq : HasUf Γ' q) : HasPieces Γ p := ⟨fun n rs lot F L => by
  rw [h]
  have hn := F.n1
  let H := headsOf rs lot
  let S0 : St := ⟨[.dat (frD n rs), .dat (tI lot), .dat (.list (fL n H)), .un, .un], none⟩
  refine runP_rt (st := S0) ?_
  show execs Γ' (b_pieces q) ⟨[.dat (frD n rs), .dat (tI lot), .un, .un, .un], none⟩ = _
  unfold b_pieces
  refine (execs_nx (st' := S0) ?_).trans (execs_rt ?_)
  · simp [hq.run n rs lot F L, evIdx, L2.atI, L2.ixN, S0, H, headsOf]
  · have inner : ∀ k : Int, 0 ≤ k → k < n → eval Γ' c_pieces1 ⟨[.dat (frD n rs), .dat (tI lot), .dat (.list (fL n H)), .dat (.int k), .un], none⟩ = some (.lst ((memL n H k).map .int), ⟨[.dat (frD n rs), .dat (tI lot), .dat (.list (fL n H)), .dat (.int k), .un], none⟩) := fun k k0 k1 => by
      have hI : evalI Γ' (.rng1 (.idx (.var 0) (.cst (.int 0)))) ⟨[.dat (frD n rs), .dat (tI lot), .dat (.list (fL n H)), .dat (.int k), .un], none⟩ = some (rngN n, ⟨[.dat (frD n rs), .dat (tI lot), .dat (.list (fL n H)), .dat (.int k), .un], none⟩) := rng_idx (m := n) rfl rfl (by omega)
      rw [rngN_ints] at hI
      exact comp_encF (fun c => decide (H c = k)) .int hI rfl rfl rfl (fun c hc => by
        obtain ⟨c0, c1⟩ := rngZ_mem hc
        have a1 : L2.atI (fL n H) c = some (.int (H c)) := fL_at c0 c1
        by_cases e : H c = k <;> simp [compF, evalC, evIdx, a1, evEq_int, e, hide, unAt]) (by simp [rngZ]; omega)
    have hI : evalI Γ' (.rng1 (.idx (.var 0) (.cst (.int 0)))) S0 = some (rngN n, S0) := rng_idx (m := n) rfl rfl (by omega)
    rw [rngN_ints] at hI
    have hc : eval Γ' c_pieces2 S0 = _ := comp_encF (fun k => decide (H k = k)) (fun k => tI (memL n H k)) hI rfl rfl rfl (fun k hk => by
      obtain ⟨k0, k1⟩ := rngZ_mem hk
      have a1 : L2.atI (fL n H) k = some (.int (H k)) := fL_at k0 k1
      have a2 := inner k k0 k1
      by_cases e : H k = k
      · simp [compF, evalC, evIdx, a1, evEq_int, e, hide, unAt, S0, a2]
        rfl
      · simp [compF, evalC, evIdx, a1, evEq_int, e, hide, unAt, S0]) (by simp [rngZ]; omega)
    simp [hc, piecesL, headL, H]⟩
/-! unfit_roads -/
def c_unfit (p : Nat) : Ex := (.comp [3] (.name 3) (.seq (.var 1)) (.not (.call p (.cons (.idx (.idx (.var 0) (.cst (.int 1))) (.var 3)) (.cons (.var 2) .nil)))) (.var 3))
def b_unfit (p : Nat) : Sms := (.cons (.ret (.bi .tuple (.cons (c_unfit p) .nil))) .nil)
def unfitL (rs : List Road) (lot : List Int) (s : Int → Int) : List Int := lot.filter fun i => !fitB s (roadOf rs i)
structure HasUnfit (Γ : Nat → Fn) (p : Nat) : Prop where
  run : ∀ (n : Nat) (rs : List Road) (lot ss : List Int), FrOk n rs → LotOk rs lot → ss.length = n → AllSg ss → (Γ p).runP [frD n rs, tI lot, tI ss] = some (.dat (tI (unfitL rs lot (sfun ss))))
theorem hasUnfit {p q : Nat} (h : Γ p = .pure (runP Γ' 1 (b_unfit q))) (hq : HasFit Γ' q) : HasUnfit Γ p := ⟨fun n rs lot ss F L hs sg => by
  rw [h]
  let S0 : St := ⟨[.dat (frD n rs), .dat (tI lot), .dat (tI ss), .un], none⟩
  refine runP_rt (st := S0) ?_
  show execs Γ' (b_unfit q) S0 = _
  unfold b_unfit
  refine execs_rt ?_
  have hI : evalI Γ' (.seq (.var 1)) S0 = some (lot.map .int, S0) := by simp [evalI, S0]
  have hc : eval Γ' (c_unfit q) S0 = _ := comp_encF (fun i => !fitB (sfun ss) (roadOf rs i)) .int hI rfl rfl rfl (fun i hi => by
    obtain ⟨i0, i1⟩ := L.ix i hi
    have a1 : evIdx (.tuple (rs.map rdD)) (.int i) = some (rdD (roadOf rs i)) := road_at i0 i1
    have a2 := hq.run (roadOf rs i) ss (by rw [hs]; exact roadOf_ok F i0 i1) sg
    cases e : fitB (sfun ss) (roadOf rs i) <;> rw [e] at a2 <;> simp [compF, evalC, a1, a2, e, hide, unAt, S0]) (by have := L.len; omega)
  simp [hc, tI, unfitL]⟩
end
end Pf

set_option maxRecDepth 100000
/-! U3: the pieces' marks and their number. -/
namespace Pf
open PySem
/-- a comprehension whose turns may change the state within I -/
theorem comp_encI {Γ : Nat → Fn} {own : List Nat} {tg : Tg} {it : Itx} {c e : Ex} {st st1 : St} {α : Type} {xs : List α} {enc : α → D} (I : St → Prop) (p : α → Bool) (h : α → D) (hI : evalI Γ it st = some (xs.map enc, st1)) (h0 : I (hide own (frzAll own st1)))
    (hf : ∀ x ∈ xs, ∀ s, I s → ∃ s', compF Γ own tg c e (enc x) s = some (if p x then some (h x) else none, s') ∧ I s') (hl : xs.length ≤ 16777216) :
    ∃ s', eval Γ (.comp own tg it c e) st = some (.lst ((xs.filter p).map h), back own (frzAll own st1) s') ∧ I s' := by
  have h1 : ∀ (ys : List α) (s : St), (∀ x ∈ ys, x ∈ xs) → I s → ∃ s', compRun (compF Γ own tg c e) (ys.map enc) s = some ((ys.filter p).map h, s') ∧ I s' := by
    intro ys
    induction ys with
    | nil => intro s _ hs; exact ⟨s, rfl, hs⟩
    | cons y ys ih =>
      intro s hy hs
      obtain ⟨s1, e1, i1⟩ := hf y (hy y (by simp)) s hs
      obtain ⟨s2, e2, i2⟩ := ih s1 (fun x hx => hy x (by simp [hx])) i1
      refine ⟨s2, ?_, i2⟩
      simp only [List.map_cons, compRun, e1, Option.bind_some, e2]
      by_cases q : p y <;> simp [q]
  obtain ⟨s', e1, i1⟩ := h1 xs _ (fun _ h => h) h0
  refine ⟨s', ?_, i1⟩
  rw [eval, hI]
  simp only [Option.bind_some]
  have hz : ((xs.filter p).map h).length ≤ sizeLine := by
    have := List.length_filter_le p xs
    rw [List.length_map, sizeLine_eq]; omega
  have h2 : compRun (fun d s => (bindT tg d s).bind fun s => (evalC Γ c s).bind fun b => if b.1 then (eval Γ e b.2).bind fun r => (frz r.2 r.1).map fun x => (some x.1, hide own x.2) else some (none, hide own b.2)) (xs.map enc) (hide own (frzAll own st1)) = some ((xs.filter p).map h, s') := e1
  rw [h2]
  simp only [Option.bind_some, hz, if_true]
/-- a def's result by its statements -/
theorem runP_of {Γ : Nat → Fn} {m : Nat} {body : Sms} {ds : List D} {P : Rv → Prop} (h : Nx Γ body ⟨ds.map argSl ++ List.replicate m .un, none⟩ fun o => ∃ r st', o = .rt r st' ∧ P r) : ∃ r, runP Γ m body ds = some r ∧ P r := by
  obtain ⟨o, e, r, st', rfl, p⟩ := h
  exact ⟨r, runP_rt e, p⟩
theorem runP_eq {Γ : Nat → Fn} {m : Nat} {body : Sms} {ds : List D} {r : Rv} (h : Nx Γ body ⟨ds.map argSl ++ List.replicate m .un, none⟩ fun o => ∃ st', o = .rt r st') : runP Γ m body ds = some r := by
  obtain ⟨o, e, st', rfl⟩ := h
  exact runP_rt e
section
variable {Γ Γ' : Nat → Fn} {n : Nat} {rs : List Road} {lot : List Int}
def c_marks1 : Ex := (.comp [4] (.name 4) (.seq (.var 2)) .nop (.idx (.idx (.idx (.var 0) (.cst (.int 1))) (.var 4)) (.cst (.int 0))))
def c_marks2 : Ex := (.comp [6] (.name 6) (.seq (.var 3)) (.op2 .isin (.var 6) (.var 5)) (.var 6))
def c_marks3 (pp : Nat) : Ex := (.comp [5] (.name 5) (.seq (.call pp (.cons (.var 0) (.cons (.var 1) .nil)))) .nop (.tup (.cons (.var 5) (.cons (.op2 .eq c_marks2 (.lst .nil)) .nil))))
def b_pmarks (pp pt pu : Nat) : Sms := (.cons (.set 2 (.call pu (.cons (.var 0) (.cons (.var 1) (.cons (.call pt (.cons (.var 0) (.cons (.var 1) .nil))) .nil))))) (.cons (.set 3 c_marks1) (.cons (.ret (.bi .tuple (.cons (c_marks3 pp) .nil))) .nil)))
/-- is the piece at k balanced -/
def goodB (rs : List Road) (lot : List Int) (k : Int) : Bool := !badB (pick rs lot) (headsOf rs lot) (sidesOf rs lot) k
def markD (n : Nat) (rs : List Road) (lot : List Int) (k : Int) : D := .tuple [tI (memL n (headsOf rs lot) k), .bool (goodB rs lot k)]
def marksL (n : Nat) (rs : List Road) (lot : List Int) : List D := (headL n (headsOf rs lot)).map (markD n rs lot)
structure HasPm (Γ : Nat → Fn) (p : Nat) : Prop where
  run : ∀ (n : Nat) (rs : List Road) (lot : List Int), FrOk n rs → LotOk rs lot → (Γ p).runP [frD n rs, tI lot] = some (.dat (.tuple (marksL n rs lot)))
theorem told_len : (toldL n rs lot).length = n := by simp [toldL, sideL]
theorem told_sg (F : FrOk n rs) (L : LotOk rs lot) : AllSg (toldL n rs lot) := fun x hx => by
  obtain ⟨k, hk, rfl⟩ := List.mem_map.mp hx
  exact (pick_lab F L).s1 k
theorem fitB_congr {s s' : Int → Int} {r : Road} (h1 : s r.1 = s' r.1) (h2 : s r.2.1 = s' r.2.1) : fitB s r = fitB s' r := by
  unfold fitB
  rw [h1, h2]
theorem fitB_told (F : FrOk n rs) {i : Int} (h0 : 0 ≤ i) (h1 : i < rs.length) : fitB (sfun (toldL n rs lot)) (roadOf rs i) = fitB (sidesOf rs lot) (roadOf rs i) := by
  obtain ⟨a, b, _⟩ := roadOf_ok F h0 h1
  exact fitB_congr (sfun_side a.1 a.2) (sfun_side b.1 b.2)
theorem unfit_told (F : FrOk n rs) (L : LotOk rs lot) : unfitL rs lot (sfun (toldL n rs lot)) = unfitL rs lot (sidesOf rs lot) := by
  unfold unfitL
  apply List.filter_congr
  intro i hi
  obtain ⟨h0, h1⟩ := L.ix i hi
  rw [fitB_told F h0 h1]
theorem memL_iff {h : Int → Int} {k c : Int} : c ∈ memL n h k ↔ (0 ≤ c ∧ c < n) ∧ h c = k := by
  unfold memL
  rw [List.mem_filter, decide_eq_true_eq]
  constructor
  · exact fun ⟨a, b⟩ => ⟨rngZ_mem a, b⟩
  · rintro ⟨⟨a, b⟩, c'⟩
    refine ⟨List.mem_map.mpr ⟨c.toNat, List.mem_range.mpr (by omega), by omega⟩, c'⟩
theorem good_iff (F : FrOk n rs) (L : LotOk rs lot) (k : Int) : (((unfitL rs lot (sidesOf rs lot)).map fun i => (roadOf rs i).1).filter fun c => decide (c ∈ memL n (headsOf rs lot) k)).isEmpty = goodB rs lot k := by
  unfold goodB
  have e : ((((unfitL rs lot (sidesOf rs lot)).map fun i => (roadOf rs i).1).filter fun c => decide (c ∈ memL n (headsOf rs lot) k)).isEmpty = false) ↔ badB (pick rs lot) (headsOf rs lot) (sidesOf rs lot) k = true := by
    rw [badB_iff, List.isEmpty_eq_false_iff_exists_mem]
    constructor
    · rintro ⟨c, hc⟩
      rw [List.mem_filter, decide_eq_true_eq, memL_iff] at hc
      obtain ⟨h1, h2, h3⟩ := hc
      obtain ⟨i, hi, rfl⟩ := List.mem_map.mp h1
      rw [unfitL, List.mem_filter] at hi
      exact ⟨roadOf rs i, List.mem_map.mpr ⟨i, hi.1, rfl⟩, by simpa using hi.2, h3⟩
    · rintro ⟨r, hr, hf, hk⟩
      obtain ⟨i, hi, rfl⟩ := List.mem_map.mp hr
      obtain ⟨h0, h1⟩ := L.ix i hi
      obtain ⟨a, _, _⟩ := roadOf_ok F h0 h1
      refine ⟨(roadOf rs i).1, List.mem_filter.mpr ⟨List.mem_map.mpr ⟨i, List.mem_filter.mpr ⟨hi, ?_⟩, rfl⟩, ?_⟩⟩
      · show (!fitB (sidesOf rs lot) (roadOf rs i)) = true
        rw [show fitB (sidesOf rs lot) (roadOf rs i) = false from hf]
        rfl
      · rw [decide_eq_true_eq, memL_iff]
        exact ⟨a, hk⟩
  cases p : badB (pick rs lot) (headsOf rs lot) (sidesOf rs lot) k <;> cases q : (((unfitL rs lot (sidesOf rs lot)).map fun i => (roadOf rs i).1).filter fun c => decide (c ∈ memL n (headsOf rs lot) k)).isEmpty <;> simp_all
theorem hasPm {p pp pt pu : Nat} (h : Γ p = .pure (runP Γ' 5 (b_pmarks pp pt pu))) (hp : HasPieces Γ' pp) (ht : HasTold Γ' pt) (hu : HasUnfit Γ' pu) : HasPm Γ p := ⟨fun n rs lot F L => by
  rw [h]
  have hn := F.n1
  have hl := L.len
  have u1 := hu.run n rs lot (toldL n rs lot) F L told_len (told_sg F L)
  rw [unfit_told F L] at u1
  let bad : List Int := (unfitL rs lot (sidesOf rs lot)).map fun i => (roadOf rs i).1
  have ul : (unfitL rs lot (sidesOf rs lot)).length ≤ lot.length := List.length_filter_le _ _
  let S1 : St := ⟨[.dat (frD n rs), .dat (tI lot), .dat (tI (unfitL rs lot (sidesOf rs lot))), .un, .un, .un, .un], none⟩
  let S2 : St := ⟨[.dat (frD n rs), .dat (tI lot), .dat (tI (unfitL rs lot (sidesOf rs lot))), .lst (bad.map .int), .un, .un, .un], none⟩
  let S3 : St := ⟨[.dat (frD n rs), .dat (tI lot), .dat (tI (unfitL rs lot (sidesOf rs lot))), .dat (.list (bad.map .int)), .un, .un, .un], none⟩
  have hb : bad.length ≤ 1000 := by simp only [bad, List.length_map]; omega
  refine runP_eq ?_
  show Nx Γ' (b_pmarks pp pt pu) ⟨[.dat (frD n rs), .dat (tI lot), .un, .un, .un, .un, .un], none⟩ _
  unfold b_pmarks
  refine nx_step (st1 := S1) ?_ ?_
  · simp [ht.run n rs lot F L, u1, S1]
  have c1 : eval Γ' c_marks1 S1 = some (.lst (bad.map .int), S1) := by
    have hI : evalI Γ' (.seq (.var 2)) S1 = some ((unfitL rs lot (sidesOf rs lot)).map .int, S1) := by simp [evalI, S1]
    have := comp_enc (Γ := Γ') (own := [4]) (tg := .name 4) (c := .nop) (e := .idx (.idx (.idx (.var 0) (.cst (.int 1))) (.var 4)) (.cst (.int 0))) (fun i => .int (roadOf rs i).1) hI rfl rfl rfl (fun i hi => by
      obtain ⟨i0, i1⟩ := L.ix i (List.mem_filter.mp hi).1
      have a1 : evIdx (.tuple (rs.map rdD)) (.int i) = some (rdD (roadOf rs i)) := road_at i0 i1
      have a2 : evIdx (rdD (roadOf rs i)) (.int 0) = some (.int (roadOf rs i).1) := rfl
      simp [compF, evalC, a1, a2, hide, unAt, S1]) (by omega)
    rw [show bad.map PyData.int = (unfitL rs lot (sidesOf rs lot)).map fun i => PyData.int (roadOf rs i).1 by simp only [bad, List.map_map]; rfl]
    exact this
  refine nx_step (st1 := S2) ?_ ?_
  · simp [c1, S1, S2]
  have inner : ∀ (k : Int) (x : Sl), (x = .lst (bad.map .int) ∨ x = .dat (.list (bad.map .int))) → eval Γ' c_marks2 ⟨[.dat (frD n rs), .dat (tI lot), .dat (tI (unfitL rs lot (sidesOf rs lot))), x, .un, .dat (tI (memL n (headsOf rs lot) k)), .un], none⟩
      = some (.lst ((bad.filter fun c => decide (c ∈ memL n (headsOf rs lot) k)).map .int), ⟨[.dat (frD n rs), .dat (tI lot), .dat (tI (unfitL rs lot (sidesOf rs lot))), .dat (.list (bad.map .int)), .un, .dat (tI (memL n (headsOf rs lot) k)), .un], none⟩) := fun k x hx => by
    have hI : evalI Γ' (.seq (.var 3)) ⟨[.dat (frD n rs), .dat (tI lot), .dat (tI (unfitL rs lot (sidesOf rs lot))), x, .un, .dat (tI (memL n (headsOf rs lot) k)), .un], none⟩ = some (bad.map .int, ⟨[.dat (frD n rs), .dat (tI lot), .dat (tI (unfitL rs lot (sidesOf rs lot))), .dat (.list (bad.map .int)), .un, .dat (tI (memL n (headsOf rs lot) k)), .un], none⟩) := by
      rcases hx with rfl | rfl <;> simp [evalI]
    exact comp_encF (fun c => decide (c ∈ memL n (headsOf rs lot) k)) .int hI rfl rfl rfl (fun c hc => by
      have a1 : evIn (.int c) (tI (memL n (headsOf rs lot) k)) = some (decide (c ∈ memL n (headsOf rs lot) k)) := evIn_int c _
      by_cases e : c ∈ memL n (headsOf rs lot) k <;> simp [compF, evalC, a1, e, hide, unAt]) (by omega)
  have hI : evalI Γ' (.seq (.call pp (.cons (.var 0) (.cons (.var 1) .nil)))) S2 = some ((headL n (headsOf rs lot)).map fun k => tI (memL n (headsOf rs lot) k), S2) := by
    simp [evalI, hp.run n rs lot F L, S2, piecesL]
  have hlen : (headL n (headsOf rs lot)).length ≤ n := by
    have := List.length_filter_le (fun k => decide (headsOf rs lot k = k)) (rngZ n)
    simpa [headL, rngZ] using this
  obtain ⟨s', e3, i3⟩ := comp_encI (Γ := Γ') (own := [5]) (tg := .name 5) (c := .nop) (e := .tup (.cons (.var 5) (.cons (.op2 .eq c_marks2 (.lst .nil)) .nil))) (fun s => s = S2 ∨ s = S3) (fun _ => true) (markD n rs lot) hI (.inl rfl) (fun k hk s hs => by
    have a2 := good_iff F L k
    have a3 := eqNil ((bad.filter fun c => decide (c ∈ memL n (headsOf rs lot) k)).map .int) (fun d hd => by
      obtain ⟨_, _, rfl⟩ := List.mem_map.mp hd
      rfl)
    rw [List.isEmpty_map, a2] at a3
    refine ⟨S3, ?_, .inr rfl⟩
    rcases hs with rfl | rfl
    · have a1 := inner k _ (.inl rfl)
      simp [compF, evalC, S2, S3, a1, a3, hide, unAt, markD]
    · have a1 := inner k _ (.inr rfl)
      simp [compF, evalC, S3, a1, a3, hide, unAt, markD]) (by omega)
  have e4 : eval Γ' (c_marks3 pp) S2 = some (.lst (marksL n rs lot), back [5] (frzAll [5] S2) s') := by
    have := e3
    rw [List.filter_eq_self.mpr (fun _ _ => rfl)] at this
    exact this
  refine nx_rt (r := .dat (.tuple (marksL n rs lot))) (st1 := back [5] (frzAll [5] S2) s') ?_ ⟨_, rfl⟩
  simp [e4]⟩
end
end Pf

set_option maxRecDepth 100000
/-! U4: how many pieces are balanced; lots; the colour row; a row's worth. -/
namespace Pf
open PySem
theorem filter_rngZ {n : Nat} (p : Int → Bool) : ((rngZ n).filter p).length = ((List.range n).filter fun (k : Nat) => p k).length := by
  unfold rngZ
  rw [List.filter_map, List.length_map]
  rfl
theorem count_bV {n : Nat} {rs : List Road} {lot : List Int} (F : FrOk n rs) (L : LotOk rs lot) : ((headL n (headsOf rs lot)).filter (goodB rs lot)).length = bV n (pick rs lot) := by
  rw [bV_lab (pick_lab F L) (pick_sgs F L)]
  unfold headL
  rw [List.filter_filter, filter_rngZ]
  congr 1
  apply List.filter_congr
  intro k _
  show ((goodB rs lot k) && decide (headsOf rs lot k = k)) = _
  rw [Bool.and_comm]
  rfl
theorem bV_le (n : Nat) (L : List Road) : bV n L ≤ n := by
  unfold bV cnt
  have := List.length_filter_le (fun a => @decide ((fun (k : Nat) => piv L k) a) (Classical.propDecidable _)) (List.range n)
  rw [List.length_range] at this
  exact this
section
variable {Γ Γ' : Nat → Fn}
def b_bal (p : Nat) : Sms := (.cons (.ret (.bi .len (.cons (.comp [2, 3] (.tup [(.name 2), (.name 3)]) (.seq (.call p (.cons (.var 0) (.cons (.var 1) .nil)))) (.var 3) (.var 2)) .nil))) .nil)
structure HasBal (Γ : Nat → Fn) (p : Nat) : Prop where
  run : ∀ (n : Nat) (rs : List Road) (lot : List Int), FrOk n rs → LotOk rs lot → (Γ p).runP [frD n rs, tI lot] = some (.dat (.int (bV n (pick rs lot))))
theorem headL_le {n : Nat} {h : Int → Int} : (headL n h).length ≤ n := by
  have := List.length_filter_le (fun k => decide (h k = k)) (rngZ n)
  simpa [headL, rngZ] using this
theorem hasBal {p q : Nat} (h : Γ p = .pure (runP Γ' 2 (b_bal q))) (hq : HasPm Γ' q) : HasBal Γ p := ⟨fun n rs lot F L => by
  rw [h]
  have hn := F.n1
  let S0 : St := ⟨[.dat (frD n rs), .dat (tI lot), .un, .un], none⟩
  refine runP_rt (st := S0) ?_
  show execs Γ' (b_bal q) S0 = _
  unfold b_bal
  refine execs_rt ?_
  have hI : evalI Γ' (.seq (.call q (.cons (.var 0) (.cons (.var 1) .nil)))) S0 = some ((headL n (headsOf rs lot)).map (markD n rs lot), S0) := by
    simp [evalI, hq.run n rs lot F L, S0, marksL]
  have hc := comp_encF (Γ := Γ') (own := [2, 3]) (tg := .tup [(.name 2), (.name 3)]) (c := .var 3) (e := .var 2) (goodB rs lot) (fun k => tI (memL n (headsOf rs lot) k)) hI rfl rfl rfl (fun k hk => by
    cases e : goodB rs lot k <;> simp [compF, evalC, markD, e, hide, unAt, S0]) (by have := headL_le (n := n) (h := headsOf rs lot); omega)
  have e := count_bV F L
  simp [hc, e]⟩
/-! lots -/
def c_lots : Ex := (.comp [3] (.name 3) (.seq (.var 1)) .nop (.tup (.star (.var 3) (.cons (.var 2) .nil))))
def b_lots : Sms := (.cons (.set 1 (.lst (.cons (.tup .nil) .nil))) (.cons (.for [2] (.name 2) (.rng1 (.var 0)) (.cons (.set 1 (.op2 .add (.var 1) c_lots)) .nil)) (.cons (.ret (.var 1)) .nil)))
def c_lots2 : Ex := (.comp [3] (.name 3) (.seq (.var 1)) .nop (.op2 .add (.var 3) (.tup (.cons (.var 2) .nil))))
def b_lots2 : Sms := (.cons (.set 1 (.lst (.cons (.tup .nil) .nil))) (.cons (.for [2] (.name 2) (.rng1 (.var 0)) (.cons (.set 1 (.op2 .add (.var 1) c_lots2)) .nil)) (.cons (.ret (.var 1)) .nil)))
structure HasLots (Γ : Nat → Fn) (p : Nat) : Prop where
  run : ∀ (m : Nat), m ≤ 16 → (Γ p).runP [.int m] = some (.lst ((lotsI m).map tI))
theorem pow_le16 {m : Nat} (h : m ≤ 16) : 2 ^ m ≤ 65536 := Nat.pow_le_pow_right (by omega) h
theorem lots_any {c : Ex} {m : Nat} (hm : m ≤ 16) (hc : ∀ i, i < m → eval Γ c ⟨[.dat (.int m), .lst ((lotsI i).map tI), .dat (.int i), .un], none⟩ = some (.lst ((lotsI i).map fun lot => tI (lot ++ [(i : Int)])), ⟨[.dat (.int m), .dat (.list ((lotsI i).map tI)), .dat (.int i), .un], none⟩)) :
    runP Γ 3 (.cons (.set 1 (.lst (.cons (.tup .nil) .nil))) (.cons (.for [2] (.name 2) (.rng1 (.var 0)) (.cons (.set 1 (.op2 .add (.var 1) c)) .nil)) (.cons (.ret (.var 1)) .nil))) [.int m] = some (.lst ((lotsI m).map tI)) := by
  refine runP_eq ?_
  show Nx Γ _ ⟨[.dat (.int m), .un, .un, .un], none⟩ _
  refine nx_step (st1 := ⟨[.dat (.int m), .lst ((lotsI 0).map tI), .un, .un], none⟩) ?_ ?_
  · simp [lotsI, tI]
  have hI : evalI Γ (.rng1 (.var 0)) ⟨[.dat (.int m), .lst ((lotsI 0).map tI), .un, .un], none⟩ = some (rngN m, ⟨[.dat (.int m), .lst ((lotsI 0).map tI), .un, .un], none⟩) := rng_eval rfl (by omega)
  refine nx_loop (I := fun i st => st = ⟨[.dat (.int m), .lst ((lotsI i).map tI), .un, .un], none⟩) hI rfl ?_ ?_
  · rintro i d s0 hd rfl
    obtain ⟨hi, rfl⟩ := rngN_at hd
    refine ⟨_, bindT_name _ _ _, ?_⟩
    have a1 := hc i hi
    have sz : 2 ^ i + 2 ^ i ≤ sizeLine := by
      rw [sizeLine_eq]
      have := pow_le16 (m := i) (by omega)
      omega
    refine nx_step (st1 := ⟨[.dat (.int m), .lst ((lotsI (i + 1)).map tI), .dat (.int i), .un], none⟩) ?_ (nx_nil ⟨_, .inl rfl, rfl⟩)
    have e : (lotsI (i + 1)).map tI = (lotsI i).map tI ++ (lotsI i).map fun lot => tI (lot ++ [(i : Int)]) := by
      simp only [lotsI, List.map_append, List.map_map]
      rfl
    rw [e]
    simp [a1, evAdd, lots_len, sz]
  · rintro st' rfl
    rw [show (rngN m).length = m by simp [rngN]]
    refine nx_rt (r := .lst ((lotsI m).map tI)) (st1 := ⟨[.dat (.int m), .un, .un, .un], none⟩) ?_ ⟨_, rfl⟩
    simp [unAt]
theorem hasLots {p : Nat} (h : Γ p = .pure (runP Γ' 3 b_lots)) : HasLots Γ p := ⟨fun m hm => by
  rw [h]
  refine lots_any hm fun i hi => ?_
  have hI : evalI Γ' (.seq (.var 1)) ⟨[.dat (.int m), .lst ((lotsI i).map tI), .dat (.int i), .un], none⟩ = some ((lotsI i).map tI, ⟨[.dat (.int m), .dat (.list ((lotsI i).map tI)), .dat (.int i), .un], none⟩) := by simp [evalI]
  refine comp_enc (fun lot => tI (lot ++ [(i : Int)])) hI rfl rfl rfl (fun lot hl => ?_) (by rw [lots_len]; have := pow_le16 (m := i) (by omega); omega)
  have sz : lot.length + 1 ≤ sizeLine := by rw [sizeLine_eq]; have := (lots_mem hl).1; omega
  simp [compF, evalC, hide, unAt, sz]
  simp [tI]⟩
theorem hasLots2 {p : Nat} (h : Γ p = .pure (runP Γ' 3 b_lots2)) : HasLots Γ p := ⟨fun m hm => by
  rw [h]
  refine lots_any hm fun i hi => ?_
  have hI : evalI Γ' (.seq (.var 1)) ⟨[.dat (.int m), .lst ((lotsI i).map tI), .dat (.int i), .un], none⟩ = some ((lotsI i).map tI, ⟨[.dat (.int m), .dat (.list ((lotsI i).map tI)), .dat (.int i), .un], none⟩) := by simp [evalI]
  refine comp_enc (fun lot => tI (lot ++ [(i : Int)])) hI rfl rfl rfl (fun lot hl => ?_) (by rw [lots_len]; have := pow_le16 (m := i) (by omega); omega)
  have sz : lot.length + 1 ≤ sizeLine := by rw [sizeLine_eq]; have := (lots_mem hl).1; omega
  have a1 : evAdd (tI lot) (.tuple [.int (i : Int)]) = some (.dat (tI (lot ++ [(i : Int)]))) := by
    show (if (lot.map PyData.int).length + 1 ≤ sizeLine then some (Rv.dat (.tuple (lot.map .int ++ [.int (i : Int)]))) else none) = _
    rw [List.length_map, if_pos sz]
    simp [tI]
  simp [compF, evalC, hide, unAt, a1]⟩
end
end Pf

set_option maxRecDepth 100000
/-! U5: the colour row, a row's worth, how many regions. -/
namespace Pf
open PySem
/-- a row's worth at x -/
def rowEv (x : Int) : List Int → Int
  | [] => 0
  | a :: r => a + x * rowEv x r
theorem rowEv_foldr (x : Int) : ∀ row : List Int, row.foldr (fun a t => t * x + a) 0 = rowEv x row
  | [] => rfl
  | a :: r => by
    rw [List.foldr_cons, rowEv_foldr x r]
    show rowEv x r * x + a = a + x * rowEv x r
    rw [Int.mul_comm, Int.add_comm]
def rowAdd (row : List Int) (j : Nat) (d : Int) : List Int := row.set j (row.getD j 0 + d)
theorem rowAdd_len (row : List Int) (j : Nat) (d : Int) : (rowAdd row j d).length = row.length := by simp [rowAdd]
theorem rowEv_add (x d : Int) : ∀ (row : List Int) (j : Nat), j < row.length → rowEv x (rowAdd row j d) = rowEv x row + d * x ^ j
  | [], j, h => by simp at h
  | a :: r, 0, _ => by
    show (a + d) + x * rowEv x r = a + x * rowEv x r + d * x ^ 0
    rw [Int.pow_zero]; omega
  | a :: r, j + 1, h => by
    have ih := rowEv_add x d r j (by simpa using h)
    have e : rowAdd (a :: r) (j + 1) d = a :: rowAdd r j d := by
      simp [rowAdd]
    rw [e]
    show a + x * rowEv x (rowAdd r j d) = a + x * rowEv x r + d * x ^ (j + 1)
    rw [ih, Int.mul_add, Int.pow_succ, show d * (x ^ j * x) = x * (d * x ^ j) by ac_rfl]
    omega
def sgnl (lot : List Int) : Int := 1 - 2 * ((lot.length : Int).fmod 2)
theorem sgnl_pow (lot : List Int) : sgnl lot = (-1) ^ lot.length := by
  unfold sgnl
  generalize lot.length = m
  have h : ∀ m : Nat, (1 : Int) - 2 * ((m : Int).fmod 2) = (-1) ^ m ∧ ((m : Int).fmod 2 = 0 ∨ (m : Int).fmod 2 = 1) := by
    intro m
    induction m with
    | zero => exact ⟨rfl, .inl rfl⟩
    | succ m ih =>
      obtain ⟨h1, h2⟩ := ih
      have e : ((m + 1 : Nat) : Int).fmod 2 = 1 - (m : Int).fmod 2 := by
        rw [Int.fmod_eq_emod_of_nonneg _ (by omega), Int.fmod_eq_emod_of_nonneg _ (by omega)]
        omega
      rw [e, Int.pow_succ, ← h1]
      constructor <;> omega
  exact (h m).1
/-- the row of the lots' pieces -/
noncomputable def colourL (n : Nat) (rs : List Road) : List Int := (lotsI rs.length).foldl (fun row lot => rowAdd row (bV n (pick rs lot)) (sgnl lot)) (List.replicate (n + 1) 0)
theorem rowEv_zero (x : Int) : ∀ m : Nat, rowEv x (List.replicate m 0) = 0
  | 0 => rfl
  | m + 1 => by
    rw [List.replicate_succ]
    show 0 + x * rowEv x (List.replicate m 0) = 0
    rw [rowEv_zero x m]; simp
theorem fold_len {n : Nat} {rs : List Road} (ls : List (List Int)) (row : List Int) : (ls.foldl (fun row lot => rowAdd row (bV n (pick rs lot)) (sgnl lot)) row).length = row.length := by
  induction ls generalizing row with
  | nil => rfl
  | cons a l ih => rw [List.foldl_cons, ih, rowAdd_len]
theorem colourL_len (n : Nat) (rs : List Road) : (colourL n rs).length = n + 1 := by
  unfold colourL
  rw [fold_len]; simp
theorem fold_ev {n : Nat} {rs : List Road} (x : Int) (ls : List (List Int)) (row : List Int) (h : row.length = n + 1) : rowEv x (ls.foldl (fun row lot => rowAdd row (bV n (pick rs lot)) (sgnl lot)) row) = rowEv x row + (ls.map fun lot => (-1) ^ lot.length * x ^ bV n (pick rs lot)).sum := by
  induction ls generalizing row with
  | nil => simp
  | cons a l ih =>
    rw [List.foldl_cons, ih _ (by rw [rowAdd_len]; exact h), rowEv_add x _ _ _ (by rw [h]; have := bV_le n (pick rs a); omega), List.map_cons, List.sum_cons, sgnl_pow]
    omega
/-- the row's worth is the alternating sum -/
theorem colour_alt (n : Nat) (rs : List Road) (x : Int) : rowEv x (colourL n rs) = alt n x rs [] := by
  unfold colourL
  rw [fold_ev x _ _ (by simp), rowEv_zero, Int.zero_add]
  exact alt_lots rs
section
variable {Γ Γ' : Nat → Fn}
def b_colour (pl pb : Nat) : Sms := (.cons (.set 1 (.op2 .mul (.lst (.cons (.cst (.int 0)) .nil)) (.op2 .add (.idx (.var 0) (.cst (.int 0))) (.cst (.int 1))))) (.cons (.for [2] (.name 2) (.seq (.call pl (.cons (.bi .len (.cons (.idx (.var 0) (.cst (.int 1))) .nil)) .nil))) (.cons (.augI 1 (.call pb (.cons (.var 0) (.cons (.var 2) .nil))) .add (.op2 .sub (.cst (.int 1)) (.op2 .mul (.cst (.int 2)) (.op2 .mod (.bi .len (.cons (.var 2) .nil)) (.cst (.int 2)))))) .nil)) (.cons (.ret (.bi .tuple (.cons (.var 1) .nil))) .nil)))
structure HasColour (Γ : Nat → Fn) (p : Nat) : Prop where
  run : ∀ (n : Nat) (rs : List Road), FrOk n rs → rs.length ≤ 16 → (Γ p).runP [frD n rs] = some (.dat (tI (colourL n rs)))
theorem lotOk_of {rs : List Road} (hm : rs.length ≤ 16) {lot : List Int} (h : lot ∈ lotsI rs.length) : LotOk rs lot := ⟨by have := (lots_mem h).1; omega, (lots_mem h).2⟩
theorem rep_zero (m : Nat) : List.replicate m (PyData.int 0) = (List.replicate m (0 : Int)).map .int := by simp
theorem hasColour {p pl pb : Nat} (h : Γ p = .pure (runP Γ' 2 (b_colour pl pb))) (hl : HasLots Γ' pl) (hb : HasBal Γ' pb) : HasColour Γ p := ⟨fun n rs F hm => by
  rw [h]
  have hn := F.n1
  let rowOf : Nat → List Int := fun i => ((lotsI rs.length).take i).foldl (fun row lot => rowAdd row (bV n (pick rs lot)) (sgnl lot)) (List.replicate (n + 1) 0)
  let S : List Int → St := fun row => ⟨[.dat (frD n rs), .lst (row.map .int), .un], none⟩
  refine runP_eq ?_
  show Nx Γ' (b_colour pl pb) ⟨[.dat (frD n rs), .un, .un], none⟩ _
  unfold b_colour
  have e1 := mul_rep (.int 0) (m := n + 1) (by omega)
  rw [rep_zero] at e1
  refine nx_step (st1 := S (rowOf 0)) ?_ ?_
  · have e1' : evMul (.list [.int 0]) (.int ((n : Int) + 1)) = _ := e1
    simp [e1', S, rowOf]
  have hI : evalI Γ' (.seq (.call pl (.cons (.bi .len (.cons (.idx (.var 0) (.cst (.int 1))) .nil)) .nil))) (S (rowOf 0)) = some ((lotsI rs.length).map tI, S (rowOf 0)) := by
    simp [evalI, S, hl.run rs.length hm]
  refine nx_loop (I := fun i st => st = S (rowOf i)) hI rfl ?_ ?_
  · rintro i d s0 hd rfl
    have hlt : i < (lotsI rs.length).length := by
      have := (List.getElem?_eq_some_iff.mp hd).1
      simpa using this
    rw [List.getElem?_map, List.getElem?_eq_getElem hlt] at hd
    simp only [Option.map_some, Option.some.injEq] at hd
    subst hd
    refine ⟨_, bindT_name _ _ _, ?_⟩
    generalize hlo : (lotsI rs.length)[i] = lot
    have hmem : lot ∈ lotsI rs.length := by rw [← hlo]; exact List.getElem_mem _
    have L := lotOk_of hm hmem
    have b1 := hb.run n rs lot F L
    have hlen : (rowOf i).length = n + 1 := by simp only [rowOf]; rw [fold_len]; simp
    have bl := bV_le n (pick rs lot)
    have nx : L2.ixN (rowOf i).length ((bV n (pick rs lot) : Nat) : Int) = some (bV n (pick rs lot)) := by
      have := ixN_in (n := (rowOf i).length) (a := bV n (pick rs lot)) (by omega) (by omega)
      simpa using this
    have at1 : L2.atI ((rowOf i).map PyData.int) ((bV n (pick rs lot) : Nat) : Int) = some (.int ((rowOf i).getD (bV n (pick rs lot)) 0)) := by
      have := atI_map (xs := rowOf i) (r := bV n (pick rs lot)) (by omega) (by omega)
      simpa using this
    have tk : rowOf (i + 1) = rowAdd (rowOf i) (bV n (pick rs lot)) (sgnl lot) := by
      simp only [rowOf]
      rw [List.take_succ_eq_append_getElem hlt, List.foldl_append, hlo]
      rfl
    have sm : smallI 2 = true := by decide
    refine nx_step (st1 := ⟨[.dat (frD n rs), .lst ((rowOf (i + 1)).map .int), .dat (tI lot)], none⟩) ?_ (nx_nil ⟨_, .inl rfl, rfl⟩)
    rw [tk]
    simp [S, b1, nx, at1, sm, augOp, rowAdd, sgnl, -List.getD_eq_getElem?_getD]
  · rintro st' rfl
    refine nx_rt (r := .dat (tI (colourL n rs))) (st1 := S (colourL n rs)) ?_ ⟨_, rfl⟩
    have e : rowOf ((lotsI rs.length).map tI).length = colourL n rs := by
      simp only [rowOf, List.length_map, List.take_length]
      rfl
    rw [e]
    simp [S]
    rfl⟩
/-! row_at -/
def b_rowat : Sms := (.cons (.set 2 (.cst (.int 0))) (.cons (.for [3] (.name 3) (.seq (.slc .rev (.var 0) .nop .nop)) (.cons (.set 2 (.op2 .add (.op2 .mul (.var 2) (.var 1)) (.var 3))) .nil)) (.cons (.ret (.var 2)) .nil)))
structure HasRowAt (Γ : Nat → Fn) (p : Nat) : Prop where
  run : ∀ (row : List Int) (x : Int), smallI x = true → (Γ p).runP [tI row, .int x] = some (.dat (.int (rowEv x row)))
theorem hasRowAt {p : Nat} (h : Γ p = .pure (runP Γ' 2 b_rowat)) : HasRowAt Γ p := ⟨fun row x sx => by
  rw [h]
  let S : Int → St := fun t => ⟨[.dat (tI row), .dat (.int x), .dat (.int t), .un], none⟩
  refine runP_eq ?_
  show Nx Γ' b_rowat ⟨[.dat (tI row), .dat (.int x), .un, .un], none⟩ _
  unfold b_rowat
  refine nx_step (st1 := S 0) ?_ ?_
  · simp [S]
  have hI : evalI Γ' (.seq (.slc .rev (.var 0) .nop .nop)) (S 0) = some (row.reverse.map .int, S 0) := by
    simp [evalI, S, evSlc, tI]
  refine nx_loop (I := fun i st => st = S ((row.reverse.take i).foldl (fun t a => t * x + a) 0)) hI rfl ?_ ?_
  · rintro i d s0 hd rfl
    have hlt : i < row.reverse.length := by
      have := (List.getElem?_eq_some_iff.mp hd).1
      simpa using this
    rw [List.getElem?_map, List.getElem?_eq_getElem hlt] at hd
    simp only [Option.map_some, Option.some.injEq] at hd
    subst hd
    refine ⟨_, bindT_name _ _ _, ?_⟩
    have tk : (row.reverse.take (i + 1)).foldl (fun t a => t * x + a) 0 = (row.reverse.take i).foldl (fun t a => t * x + a) 0 * x + row.reverse[i] := by
      rw [List.take_succ_eq_append_getElem hlt, List.foldl_append]
      rfl
    dsimp only
    rw [tk]
    generalize (row.reverse.take i).foldl (fun t a => t * x + a) 0 = t
    generalize row.reverse[i] = a
    refine nx_step (st1 := ⟨[.dat (tI row), .dat (.int x), .dat (.int (t * x + a)), .dat (.int a)], none⟩) ?_ (nx_nil ⟨_, .inl rfl, rfl⟩)
    simp [S, sx]
  · rintro st' rfl
    rw [List.length_map, List.take_length, List.foldl_reverse, rowEv_foldr]
    refine nx_rt (r := .dat (.int (rowEv x row))) (st1 := S (rowEv x row)) ?_ ⟨_, rfl⟩
    simp [S]⟩
/-! region_count -/
def b_region (pr pc : Nat) : Sms := (.cons (.ret (.bi .abs (.cons (.call pr (.cons (.call pc (.cons (.var 0) .nil)) (.cons (.neg (.cst (.int 1))) .nil))) .nil))) .nil)
structure HasRegion (Γ : Nat → Fn) (p : Nat) : Prop where
  run : ∀ (n : Nat) (rs : List Road), FrOk n rs → rs.length ≤ 16 → (Γ p).runP [frD n rs] = some (.dat (.int (regs rs [])))
theorem regs_colour {n : Nat} {rs : List Road} (F : FrOk n rs) : (if rowEv (-1) (colourL n rs) < 0 then -rowEv (-1) (colourL n rs) else rowEv (-1) (colourL n rs)) = (regs rs [] : Nat) := by
  have e := regs_abs (n := n) (A := rs) (E := []) (fun r hr => ⟨(F.g r hr).1, (F.g r hr).2.1⟩)
  rw [← colour_alt] at e
  split <;> omega
theorem hasRegion {p pr pc : Nat} (h : Γ p = .pure (runP Γ' 0 (b_region pr pc))) (hr : HasRowAt Γ' pr) (hc : HasColour Γ' pc) : HasRegion Γ p := ⟨fun n rs F hm => by
  rw [h]
  refine runP_rt (st := ⟨[.dat (frD n rs)], none⟩) ?_
  show execs Γ' (b_region pr pc) ⟨[.dat (frD n rs)], none⟩ = _
  unfold b_region
  refine execs_rt ?_
  have a1 := hc.run n rs F hm
  have a2 := hr.run (colourL n rs) (-1) (by decide)
  have a3 := regs_colour F
  simp [a1, a2, a3]⟩
end
end Pf

set_option maxRecDepth 100000
/-! M5: a search through the roads gives labels. -/
namespace Pf
structure SS where
  ks : List Int
  line : List Int
  s : Int → Int
  bit : Bool
def vis (here t one o : Int) (st : SS) : SS :=
  if one = here ∧ o ∉ st.ks then ⟨st.ks ++ [o], st.line ++ [o], fun c => if c = o then t * st.s here else st.s c, st.bit⟩
  else if one = here ∧ st.s o ≠ t * st.s here then ⟨st.ks, st.line, st.s, false⟩ else st
def visR (here : Int) (st : SS) (r : Road) : SS := vis here r.2.2 r.2.1 r.1 (vis here r.2.2 r.1 r.2.1 st)
structure Sr (n : Nat) (E : List Road) (K0 : List Int) (s0 : Int → Int) (f0 : Int) (st : SS) : Prop where
  nd : st.ks.Nodup
  rg : ∀ c ∈ st.ks, 0 ≤ c ∧ c < n
  pre : ∃ new, st.ks = K0 ++ new
  f0m : f0 ∈ st.ks ∧ f0 ∉ K0
  sub : ∀ c ∈ st.line, c ∈ st.ks ∧ c ∉ K0
  ln : st.line.Nodup
  sg : ∀ c ∈ st.ks, c ∉ K0 → Sg (st.s c)
  pot : ∀ c ∈ st.ks, c ∉ K0 → ∀ f : Int → Int, (∀ r ∈ E, f r.1 = f r.2.1) → f c = f f0
  vec : ∀ c ∈ st.ks, c ∉ K0 → ∀ x, VE E x → x c = st.s c * x f0
  sf : st.s f0 = 1
  bad : st.bit = false → ∀ x, VE E x → x f0 = 0
  old : ∀ c ∈ K0, st.s c = s0 c
def Dn (K0 : List Int) (st : SS) (c o t : Int) : Prop := (o ∈ st.ks ∧ o ∉ K0) ∧ (st.bit = true → st.s o = t * st.s c)
def Did (K0 : List Int) (st : SS) (c : Int) (r : Road) : Prop := (r.1 = c → Dn K0 st c r.2.1 r.2.2) ∧ (r.2.1 = c → Dn K0 st c r.1 r.2.2)
structure Lee (st st' : SS) : Prop where
  ks : ∀ c ∈ st.ks, c ∈ st'.ks
  s : ∀ c ∈ st.ks, st'.s c = st.s c
  bit : st'.bit = true → st.bit = true
  line : ∀ c ∈ st.ks, c ∈ st'.line → c ∈ st.line
  lm : ∀ c ∈ st.line, c ∈ st'.line
  new : ∀ c ∈ st'.ks, c ∉ st.ks → c ∈ st'.line
theorem Lee.refl (st : SS) : Lee st st := ⟨fun _ h => h, fun _ _ => rfl, fun h => h, fun _ _ h => h, fun _ h => h, fun _ h n => absurd h n⟩
theorem Lee.trans {a b c : SS} (h : Lee a b) (k : Lee b c) : Lee a c := ⟨fun x hx => k.ks x (h.ks x hx), fun x hx => (k.s x (h.ks x hx)).trans (h.s x hx), fun z => h.bit (k.bit z), fun x hx z => h.line x hx (k.line x (h.ks x hx) z), fun x hx => k.lm x (h.lm x hx), fun x hx hn => by
  by_cases q : x ∈ b.ks
  · exact k.lm x (h.new x q hn)
  · exact k.new x hx q⟩
theorem Dn.mono {K0 : List Int} {st st' : SS} {c o t : Int} (h : Dn K0 st c o t) (l : Lee st st') (hc : c ∈ st.ks) : Dn K0 st' c o t := by
  obtain ⟨⟨h1, h2⟩, h3⟩ := h
  exact ⟨⟨l.ks o h1, h2⟩, fun b => by rw [l.s o h1, l.s c hc]; exact h3 (l.bit b)⟩
theorem Did.mono {K0 : List Int} {st st' : SS} {c : Int} {r : Road} (h : Did K0 st c r) (l : Lee st st') (hc : c ∈ st.ks) : Did K0 st' c r := ⟨fun e => (h.1 e).mono l hc, fun e => (h.2 e).mono l hc⟩
section
variable {n : Nat} {E : List Road} {K0 : List Int} {s0 : Int → Int} {f0 : Int} {st : SS} {here : Int}
theorem vis_ok (I : Sr n E K0 s0 f0 st) (cl : ∀ r ∈ E, r.1 ∈ K0 ↔ r.2.1 ∈ K0) (hh : here ∈ st.ks ∧ here ∉ K0) {t one o : Int} (tS : Sg t) (oR : 0 ≤ o ∧ o < n)
    (hp : one = here → ∀ f : Int → Int, (∀ r ∈ E, f r.1 = f r.2.1) → f o = f here) (hv : one = here → ∀ x, VE E x → x o = t * x here) (hk : one = here → o ∉ K0) :
    Sr n E K0 s0 f0 (vis here t one o st) ∧ Lee st (vis here t one o st) ∧ (one = here → Dn K0 (vis here t one o st) here o t) := by
  unfold vis
  by_cases h1 : one = here ∧ o ∉ st.ks
  · rw [if_pos h1]
    obtain ⟨e, ho⟩ := h1
    have hne : ∀ c ∈ st.ks, c ≠ o := fun c hc z => ho (z ▸ hc)
    have sO : ∀ c ∈ st.ks, (fun c => if c = o then t * st.s here else st.s c) c = st.s c := fun c hc => if_neg (hne c hc)
    have mem : ∀ c ∈ st.ks ++ [o], c ∈ st.ks ∨ c = o := fun c hc => by simpa using hc
    have so : (fun c => if c = o then t * st.s here else st.s c) o = t * st.s here := if_pos rfl
    refine ⟨⟨?_, fun c hc => ?_, ?_, ⟨by simp [I.f0m.1], I.f0m.2⟩, fun c hc => ?_, ?_, fun c hc hn => ?_, fun c hc hn f hf => ?_, fun c hc hn x hx => ?_, ?_, I.bad, fun c hc => ?_⟩, ⟨fun c hc => List.mem_append_left _ hc, sO, fun z => z, fun c hc z => ?_, fun c hc => List.mem_append_left _ hc, fun c hc hn => ?_⟩, fun _ => ⟨⟨by simp, hk e⟩, fun _ => ?_⟩⟩
    · rw [List.nodup_append]
      exact ⟨I.nd, by simp, fun a ha b hb => by rw [List.mem_singleton] at hb; rw [hb]; exact hne a ha⟩
    · rcases mem c hc with hc | rfl
      · exact I.rg c hc
      · exact oR
    · obtain ⟨new, e2⟩ := I.pre
      exact ⟨new ++ [o], by rw [e2, List.append_assoc]⟩
    · rcases (by simpa using hc : c ∈ st.line ∨ c = o) with hc | rfl
      · exact ⟨List.mem_append_left _ (I.sub c hc).1, (I.sub c hc).2⟩
      · exact ⟨by simp, hk e⟩
    · rw [List.nodup_append]
      exact ⟨I.ln, by simp, fun a ha b hb => by rw [List.mem_singleton] at hb; rw [hb]; exact hne a (I.sub a ha).1⟩
    · rcases mem c hc with hc | rfl
      · show Sg ((fun c => if c = o then t * st.s here else st.s c) c)
        rw [sO c hc]; exact I.sg c hc hn
      · show Sg ((fun c' => if c' = c then t * st.s here else st.s c') c)
        rw [so]; exact tS.mul (I.sg here hh.1 hh.2)
    · rcases mem c hc with hc | rfl
      · exact I.pot c hc hn f hf
      · rw [hp e f hf]; exact I.pot here hh.1 hh.2 f hf
    · rcases mem c hc with hc | rfl
      · show x c = (fun c => if c = o then t * st.s here else st.s c) c * x f0
        rw [sO c hc]; exact I.vec c hc hn x hx
      · show x c = (fun c' => if c' = c then t * st.s here else st.s c') c * x f0
        rw [so, hv e x hx, I.vec here hh.1 hh.2 x hx]; ac_rfl
    · show (fun c => if c = o then t * st.s here else st.s c) f0 = 1
      rw [sO f0 I.f0m.1]; exact I.sf
    · show (fun c => if c = o then t * st.s here else st.s c) c = s0 c
      obtain ⟨new, e2⟩ := I.pre
      rw [sO c (by rw [e2]; exact List.mem_append_left _ hc)]; exact I.old c hc
    · rcases (by simpa using z : c ∈ st.line ∨ c = o) with z | rfl
      · exact z
      · exact absurd hc ho
    · rcases mem c hc with hc | rfl
      · exact absurd hc hn
      · simp
    · show (fun c => if c = o then t * st.s here else st.s c) o = t * (fun c => if c = o then t * st.s here else st.s c) here
      rw [so, sO here hh.1]
  · rw [if_neg h1]
    by_cases h2 : one = here ∧ st.s o ≠ t * st.s here
    · rw [if_pos h2]
      obtain ⟨e, hs⟩ := h2
      have ho : o ∈ st.ks := by
        by_cases q : o ∈ st.ks
        · exact q
        · exact absurd ⟨e, q⟩ h1
      refine ⟨⟨I.nd, I.rg, I.pre, I.f0m, I.sub, I.ln, I.sg, I.pot, I.vec, I.sf, fun _ x hx => ?_, I.old⟩, ⟨fun _ h => h, fun _ _ => rfl, fun z => (by cases z), fun _ _ h => h, fun _ h => h, fun _ h n => absurd h n⟩, fun _ => ⟨⟨ho, hk e⟩, fun z => (by cases z)⟩⟩
      have v1 := I.vec o ho (hk e) x hx
      rw [hv e x hx, I.vec here hh.1 hh.2 x hx] at v1
      have c1 := (I.sg o ho (hk e)).cases (tS.mul (I.sg here hh.1 hh.2))
      have e3 : st.s o = -(t * st.s here) := c1.resolve_left hs
      rw [e3, ← Int.mul_assoc] at v1
      rcases tS.mul (I.sg here hh.1 hh.2) with q | q <;> rw [q] at v1 <;> omega
    · rw [if_neg h2]
      refine ⟨I, Lee.refl _, fun e => ⟨⟨?_, hk e⟩, fun _ => ?_⟩⟩
      · by_cases q : o ∈ st.ks
        · exact q
        · exact absurd ⟨e, q⟩ h1
      · by_cases q : st.s o = t * st.s here
        · exact q
        · exact absurd ⟨e, q⟩ h2
theorem visR_ok (I : Sr n E K0 s0 f0 st) (cl : ∀ r ∈ E, r.1 ∈ K0 ↔ r.2.1 ∈ K0) (hh : here ∈ st.ks ∧ here ∉ K0) {r : Road} (hr : r ∈ E) (sg : Sg r.2.2) (rN : InN n r) :
    Sr n E K0 s0 f0 (visR here st r) ∧ Lee st (visR here st r) ∧ Did K0 (visR here st r) here r := by
  have sq := sg.sq
  obtain ⟨I1, l1, d1⟩ := vis_ok (t := r.2.2) (one := r.1) (o := r.2.1) I cl hh sg rN.2 (fun e f hf => by rw [← e]; exact (hf r hr).symm) (fun e x hx => by
    have := hx r hr
    unfold rdx at this
    rw [← e, show x r.1 = r.2.2 * x r.2.1 by omega, ← Int.mul_assoc, sq, Int.one_mul]) (fun e => fun z => hh.2 (by rw [← e]; exact (cl r hr).mpr z))
  have hh1 : here ∈ (vis here r.2.2 r.1 r.2.1 st).ks ∧ here ∉ K0 := ⟨l1.ks _ hh.1, hh.2⟩
  obtain ⟨I2, l2, d2⟩ := vis_ok (t := r.2.2) (one := r.2.1) (o := r.1) I1 cl hh1 sg rN.1 (fun e f hf => by rw [← e]; exact hf r hr) (fun e x hx => by
    have := hx r hr
    unfold rdx at this
    rw [← e]
    omega) (fun e => fun z => hh.2 (by rw [← e]; exact (cl r hr).mp z))
  exact ⟨I2, l1.trans l2, fun e => (d1 e).mono l2 hh1.1, d2⟩
theorem visAll_ok (cl : ∀ r ∈ E, r.1 ∈ K0 ↔ r.2.1 ∈ K0) (sg : Sgs E) (rN : ∀ r ∈ E, InN n r) : ∀ (M : List Road) {st : SS}, (∀ r ∈ M, r ∈ E) → Sr n E K0 s0 f0 st → here ∈ st.ks ∧ here ∉ K0 →
    Sr n E K0 s0 f0 (M.foldl (visR here) st) ∧ Lee st (M.foldl (visR here) st) ∧ ∀ r ∈ M, Did K0 (M.foldl (visR here) st) here r
  | [], st, _, I, _ => ⟨I, Lee.refl _, fun r hr => nomatch hr⟩
  | r :: M, st, hM, I, hh => by
    obtain ⟨I1, l1, d1⟩ := visR_ok I cl hh (hM r (by simp)) (sg r (hM r (by simp))) (rN r (hM r (by simp)))
    obtain ⟨I2, l2, d2⟩ := visAll_ok cl sg rN M (fun q hq => hM q (by simp [hq])) I1 ⟨l1.ks _ hh.1, hh.2⟩
    refine ⟨I2, l1.trans l2, fun q hq => ?_⟩
    rcases List.mem_cons.mp hq with rfl | hq
    · exact d1.mono l2 (l1.ks _ hh.1)
    · exact d2 q hq
end
end Pf

set_option maxRecDepth 100000
/-! M6: a whole search: its end, and all searches together. -/
namespace Pf
theorem nodup_le : ∀ {n : Nat} {l : List Int}, l.Nodup → (∀ c ∈ l, 0 ≤ c ∧ c < n) → l.length ≤ n
  | 0, l, _, h => by
    cases l with
    | nil => simp
    | cons a l => have := h a (by simp); omega
  | n + 1, l, nd, h => by
    by_cases q : (n : Int) ∈ l
    · have e := nodup_le (n := n) (nd.erase (n : Int)) fun c hc => by
        rw [nd.mem_erase_iff] at hc
        have := h c hc.2
        have h1 := hc.1
        omega
      rw [List.length_erase_of_mem q] at e
      omega
    · have := nodup_le (n := n) nd fun c hc => by
        have h1 := h c hc
        have h2 : c ≠ n := fun z => q (z ▸ hc)
        omega
      omega
theorem vis_more (here t one o : Int) (st : SS) : st.ks.length ≤ (vis here t one o st).ks.length := by
  unfold vis
  split
  · simp
  · split <;> simp
theorem visAll_more (here : Int) : ∀ (M : List Road) (st : SS), st.ks.length ≤ (M.foldl (visR here) st).ks.length
  | [], st => Nat.le_refl _
  | r :: M, st => by
    have h1 := vis_more here r.2.2 r.1 r.2.1 st
    have h2 := vis_more here r.2.2 r.2.1 r.1 (vis here r.2.2 r.1 r.2.1 st)
    have h3 := visAll_more here M (visR here st r)
    rw [List.foldl_cons]
    unfold visR at h3 ⊢
    omega
/-- each visit adds as much to the line as to the keys -/
theorem vis_grow (here t one o : Int) (st : SS) : (vis here t one o st).ks.length + st.line.length = st.ks.length + (vis here t one o st).line.length := by
  unfold vis
  split
  · simp; omega
  · split <;> simp
theorem visR_grow (here : Int) (st : SS) (r : Road) : (visR here st r).ks.length + st.line.length = st.ks.length + (visR here st r).line.length := by
  have h1 := vis_grow here r.2.2 r.1 r.2.1 st
  have h2 := vis_grow here r.2.2 r.2.1 r.1 (vis here r.2.2 r.1 r.2.1 st)
  unfold visR
  omega
theorem visAll_grow (here : Int) : ∀ (M : List Road) (st : SS), (M.foldl (visR here) st).ks.length + st.line.length = st.ks.length + (M.foldl (visR here) st).line.length
  | [], st => rfl
  | r :: M, st => by
    have h1 := visR_grow here st r
    have h2 := visAll_grow here M (visR here st r)
    rw [List.foldl_cons]
    omega
/-- an open search: all that has left the line is done -/
structure Open (n : Nat) (E : List Road) (K0 : List Int) (s0 : Int → Int) (f0 : Int) (st : SS) : Prop where
  sr : Sr n E K0 s0 f0 st
  did : ∀ c ∈ st.ks, c ∉ K0 → c ∉ st.line → ∀ r ∈ E, Did K0 st c r
def turnS (E : List Road) (here : Int) (l : List Int) (st : SS) : SS := E.foldl (visR here) ⟨st.ks, l, st.s, st.bit⟩
def meas (n : Nat) (st : SS) : Nat := 2 * (n - st.ks.length) + st.line.length
section
variable {n : Nat} {E : List Road} {K0 : List Int} {s0 : Int → Int} {f0 : Int} {st : SS} {here : Int}
theorem Open.start (nd : K0.Nodup) (rg : ∀ c ∈ K0, 0 ≤ c ∧ c < n) (hf : f0 ∉ K0) (fr : 0 ≤ f0 ∧ f0 < n) : Open n E K0 s0 f0 ⟨K0 ++ [f0], [f0], fun c => if c = f0 then 1 else s0 c, true⟩ := by
  have mem : ∀ c ∈ K0 ++ [f0], c ∉ K0 → c = f0 := fun c hc hn => by
    rcases List.mem_append.mp hc with hc | hc
    · exact absurd hc hn
    · exact List.mem_singleton.mp hc
  refine ⟨⟨?_, fun c hc => ?_, ⟨[f0], rfl⟩, ⟨by simp, hf⟩, fun c hc => ?_, by simp, fun c hc hn => ?_, fun c hc hn f _ => ?_, fun c hc hn x _ => ?_, if_pos rfl, (fun z => by cases z), fun c hc => ?_⟩, fun c hc hn hl => ?_⟩
  · rw [List.nodup_append]
    exact ⟨nd, by simp, fun a ha b hb z => by rw [List.mem_singleton] at hb; rw [z, hb] at ha; exact hf ha⟩
  · rcases List.mem_append.mp hc with hc | hc
    · exact rg c hc
    · rw [List.mem_singleton] at hc; rw [hc]; exact fr
  · have : c = f0 := by simpa using hc
    rw [this]; exact ⟨by simp, hf⟩
  · rw [mem c hc hn]
    show Sg (if f0 = f0 then 1 else s0 f0)
    rw [if_pos rfl]; exact .inl rfl
  · rw [mem c hc hn]
  · rw [mem c hc hn]
    show x f0 = (if f0 = f0 then 1 else s0 f0) * x f0
    rw [if_pos rfl, Int.one_mul]
  · exact if_neg fun (z : c = f0) => hf (z ▸ hc)
  · exact absurd (by rw [mem c hc hn]; simp) hl
theorem Open.turn (O : Open n E K0 s0 f0 st) (cl : ∀ r ∈ E, r.1 ∈ K0 ↔ r.2.1 ∈ K0) (sg : Sgs E) (rN : ∀ r ∈ E, InN n r) {l : List Int} (hl : st.line = l ++ [here]) :
    Open n E K0 s0 f0 (turnS E here l st) ∧ meas n (turnS E here l st) < meas n st := by
  have I := O.sr
  have hin := I.sub here (by rw [hl]; simp)
  have hnd := I.ln
  rw [hl, List.nodup_append] at hnd
  have hnl : here ∉ l := fun z => hnd.2.2 here z here (by simp) rfl
  have I0 : Sr n E K0 s0 f0 ⟨st.ks, l, st.s, st.bit⟩ := ⟨I.nd, I.rg, I.pre, I.f0m, fun c hc => I.sub c (by rw [hl]; exact List.mem_append_left _ hc), hnd.1, I.sg, I.pot, I.vec, I.sf, I.bad, I.old⟩
  obtain ⟨I1, l1, d1⟩ := visAll_ok (here := here) cl sg rN E (fun r hr => hr) I0 hin
  refine ⟨⟨I1, fun c hc hn hnl' r hr => ?_⟩, ?_⟩
  · by_cases q : c = here
    · subst q; exact d1 r hr
    · -- an older one
      have hold : c ∈ st.ks := by
        by_cases z : c ∈ st.ks
        · exact z
        · exact absurd (l1.new c hc z) hnl'
      have hcl : c ∉ st.line := fun z => by
        rw [hl] at z
        rcases List.mem_append.mp z with z | z
        · exact hnl' (l1.lm c z)
        · rw [List.mem_singleton] at z; exact q z
      have e := O.did c hold hn hcl r hr
      have e' : Did K0 ⟨st.ks, l, st.s, st.bit⟩ c r := e
      exact e'.mono l1 hold
  · have g := visAll_grow here E ⟨st.ks, l, st.s, st.bit⟩
    have b1 := nodup_le I1.nd I1.rg
    have hll : st.line.length = l.length + 1 := by rw [hl]; simp
    unfold meas turnS
    simp only at g
    have k1 : st.ks.length ≤ (E.foldl (visR here) ⟨st.ks, l, st.s, st.bit⟩).ks.length := visAll_more here E ⟨st.ks, l, st.s, st.bit⟩
    omega
end
end Pf

set_option maxRecDepth 100000
/-! M7: all searches together give labels. -/
namespace Pf
def hdsB (i : Nat) (E : List Road) (h s : Int → Int) : List Bool := ((List.range i).filter fun (k : Nat) => decide (h k = k)).map fun (k : Nat) => !badB E h s k
structure Gl (n : Nat) (E : List Road) (i : Nat) (ks : List Int) (s h : Int → Int) (fo : List Bool) : Prop where
  nd : ks.Nodup
  rg : ∀ c ∈ ks, 0 ≤ c ∧ c < n
  lt : ∀ j : Nat, j < i → (j : Int) ∈ ks
  cl : ∀ r ∈ E, r.1 ∈ ks ↔ r.2.1 ∈ ks
  hk : ∀ c ∈ ks, (0 ≤ h c ∧ h c ≤ c) ∧ h c < i ∧ h (h c) = h c ∧ h c ∈ ks
  ho : ∀ c, c ∉ ks → h c = c
  s1 : ∀ c ∈ ks, Sg (s c)
  sh : ∀ c ∈ ks, s (h c) = 1
  rd : ∀ r ∈ E, r.1 ∈ ks → h r.1 = h r.2.1
  pot : ∀ c ∈ ks, ∀ f : Int → Int, (∀ r ∈ E, f r.1 = f r.2.1) → f c = f (h c)
  vec : ∀ c ∈ ks, ∀ x, VE E x → x c = s c * x (h c)
  fo : fo = hdsB i E h s
section
variable {n : Nat} {E : List Road} {i : Nat} {ks : List Int} {s h : Int → Int} {fo : List Bool}
theorem Gl.start : Gl n E 0 [] s (fun c => c) [] := ⟨by simp, by simp, fun j hj => by omega, fun r _ => by simp, by simp, fun _ _ => rfl, by simp, by simp, by simp, by simp, by simp, rfl⟩
theorem hds_succ (i : Nat) : hdsB (i + 1) E h s = hdsB i E h s ++ if h i = i then [!badB E h s i] else [] := by
  unfold hdsB
  rw [List.range_succ, List.filter_append, List.map_append]
  congr 1
  by_cases e : h i = i <;> simp [e]
theorem fitS {s s' : Int → Int} {r : Road} (h1 : s r.1 = s' r.1) (h2 : s r.2.1 = s' r.2.1) : fitB s r = fitB s' r := by
  unfold fitB
  rw [h1, h2]
/-- nothing is to be searched -/
theorem Gl.skip (G : Gl n E i ks s h fo) (hi : (i : Int) ∈ ks) : Gl n E (i + 1) ks s h fo := by
  have h1 := (G.hk _ hi).2.1
  refine ⟨G.nd, G.rg, fun j hj => ?_, G.cl, fun c hc => ?_, G.ho, G.s1, G.sh, G.rd, G.pot, G.vec, ?_⟩
  · rcases Nat.lt_or_ge j i with q | q
    · exact G.lt j q
    · rw [show j = i by omega]; exact hi
  · obtain ⟨a, b, c', d⟩ := G.hk c hc
    exact ⟨a, by omega, c', d⟩
  · rw [hds_succ, if_neg (by omega), List.append_nil]
    exact G.fo
/-- a search has come to its end -/
theorem Gl.next (G : Gl n E i ks s h fo) (sg : Sgs E) (rN : ∀ r ∈ E, InN n r) (hi : (i : Int) ∉ ks) {st : SS} (O : Open n E ks s i st) (hl : st.line = []) :
    Gl n E (i + 1) st.ks st.s (fun c => if c ∈ ks then h c else if c ∈ st.ks then i else c) (fo ++ [st.bit]) := by
  have I := O.sr
  obtain ⟨new, hpre⟩ := I.pre
  have sub : ∀ c ∈ ks, c ∈ st.ks := fun c hc => by rw [hpre]; exact List.mem_append_left _ hc
  have ge : ∀ c ∈ st.ks, c ∉ ks → (i : Int) ≤ c := fun c hc hn => by
    have h0 := (I.rg c hc).1
    rcases Int.lt_or_le c i with q | q
    · exact absurd (by have := G.lt c.toNat (by omega); rwa [show ((c.toNat : Nat) : Int) = c by omega] at this) hn
    · exact q
  have did : ∀ c ∈ st.ks, c ∉ ks → ∀ r ∈ E, Did ks st c r := fun c hc hn => O.did c hc hn (by rw [hl]; simp)
  have cl : ∀ r ∈ E, (r.1 ∈ st.ks ∧ r.1 ∉ ks) ↔ (r.2.1 ∈ st.ks ∧ r.2.1 ∉ ks) := fun r hr => ⟨fun ⟨a, b⟩ => ((did _ a b r hr).1 rfl).1, fun ⟨a, b⟩ => ((did _ a b r hr).2 rfl).1⟩
  have H1 : ∀ c ∈ ks, (if c ∈ ks then h c else if c ∈ st.ks then (i : Int) else c) = h c := fun c hc => if_pos hc
  have H2 : ∀ c, c ∈ st.ks → c ∉ ks → (if c ∈ ks then h c else if c ∈ st.ks then (i : Int) else c) = i := fun c hc hn => by rw [if_neg hn, if_pos hc]
  have H3 : ∀ c, c ∉ st.ks → (if c ∈ ks then h c else if c ∈ st.ks then (i : Int) else c) = c := fun c hc => by rw [if_neg fun z => hc (sub c z), if_neg hc]
  refine ⟨I.nd, I.rg, fun j hj => ?_, fun r hr => ?_, fun c hc => ?_, H3, fun c hc => ?_, fun c hc => ?_, fun r hr hc => ?_, fun c hc f hf => ?_, fun c hc x hx => ?_, ?_⟩
  · rcases Nat.lt_or_ge j i with q | q
    · exact sub _ (G.lt j q)
    · rw [show j = i by omega]; exact I.f0m.1
  · constructor
    · intro a
      by_cases q : r.1 ∈ ks
      · exact sub _ ((G.cl r hr).mp q)
      · exact ((cl r hr).mp ⟨a, q⟩).1
    · intro a
      by_cases q : r.2.1 ∈ ks
      · exact sub _ ((G.cl r hr).mpr q)
      · exact ((cl r hr).mpr ⟨a, q⟩).1
  · by_cases q : c ∈ ks
    · obtain ⟨a, b, d, e⟩ := G.hk c q
      rw [H1 c q, H1 _ e]
      exact ⟨a, by omega, d, sub _ e⟩
    · have := ge c hc q
      rw [H2 c hc q, H2 _ I.f0m.1 I.f0m.2]
      exact ⟨⟨by omega, this⟩, by omega, rfl, I.f0m.1⟩
  · by_cases q : c ∈ ks
    · rw [I.old c q]; exact G.s1 c q
    · exact I.sg c hc q
  · by_cases q : c ∈ ks
    · rw [H1 c q, I.old _ (G.hk c q).2.2.2]; exact G.sh c q
    · rw [H2 c hc q]; exact I.sf
  · by_cases q : r.1 ∈ ks
    · rw [H1 _ q, H1 _ ((G.cl r hr).mp q)]; exact G.rd r hr q
    · obtain ⟨a, b⟩ := (cl r hr).mp ⟨hc, q⟩
      rw [H2 _ hc q, H2 _ a b]
  · by_cases q : c ∈ ks
    · rw [H1 c q]; exact G.pot c q f hf
    · rw [H2 c hc q]; exact I.pot c hc q f hf
  · by_cases q : c ∈ ks
    · rw [H1 c q, I.old c q]; exact G.vec c q x hx
    · rw [H2 c hc q]; exact I.vec c hc q x hx
  · rw [hds_succ, if_pos (H2 _ I.f0m.1 I.f0m.2)]
    congr 1
    · rw [G.fo]
      unfold hdsB
      have e1 : (List.range i).filter (fun (k : Nat) => decide (h k = k)) = (List.range i).filter (fun (k : Nat) => decide ((if (k : Int) ∈ ks then h k else if (k : Int) ∈ st.ks then (i : Int) else k) = k)) := by
        apply List.filter_congr
        intro k hk
        have := G.lt k (List.mem_range.mp hk)
        rw [H1 _ this]
      rw [← e1]
      apply List.map_congr_left
      intro k hk
      have hki := List.mem_range.mp (List.mem_filter.mp hk).1
      congr 1
      have kin := G.lt k hki
      rw [Bool.eq_iff_iff, badB_iff, badB_iff]
      constructor
      · rintro ⟨r, hr, hf, hk'⟩
        have r1 : r.1 ∈ ks := by
          by_cases q : r.1 ∈ ks
          · exact q
          · rw [G.ho _ q] at hk'; rw [hk']; exact kin
        refine ⟨r, hr, ?_, by rw [H1 _ r1]; exact hk'⟩
        rw [fitS (I.old _ r1) (I.old _ ((G.cl r hr).mp r1))]
        exact hf
      · rintro ⟨r, hr, hf, hk'⟩
        have r1 : r.1 ∈ ks := by
          by_cases q : r.1 ∈ ks
          · exact q
          · by_cases q2 : r.1 ∈ st.ks
            · rw [H2 _ q2 q] at hk'; omega
            · rw [H3 _ q2] at hk'; rw [hk']; exact kin
        rw [H1 _ r1] at hk'
        refine ⟨r, hr, ?_, hk'⟩
        rw [fitS (I.old _ r1) (I.old _ ((G.cl r hr).mp r1))] at hf
        exact hf
    · congr 1
      have fitN : ∀ r ∈ E, r.1 ∈ st.ks → r.1 ∉ ks → st.bit = true → fitB st.s r = true := fun r hr a b hb => by
        have e := ((did _ a b r hr).1 rfl).2 hb
        have sq := (I.sg _ a b).sq
        unfold fitB
        rw [decide_eq_true_eq, e, show st.s r.1 * (r.2.2 * st.s r.1) = r.2.2 * (st.s r.1 * st.s r.1) by ac_rfl, sq, Int.mul_one]
      have key : badB E (fun c => if c ∈ ks then h c else if c ∈ st.ks then (i : Int) else c) st.s i = true ↔ st.bit = false := by
        rw [badB_iff]
        constructor
        · rintro ⟨r, hr, hf, hk'⟩
          have r1 : r.1 ∈ st.ks ∧ r.1 ∉ ks := by
            by_cases q : r.1 ∈ ks
            · have hk' : (if r.1 ∈ ks then h r.1 else if r.1 ∈ st.ks then (i : Int) else r.1) = i := hk'
              rw [H1 _ q] at hk'
              have := (G.hk _ q).2.1
              omega
            · by_cases q2 : r.1 ∈ st.ks
              · exact ⟨q2, q⟩
              · have hk' : (if r.1 ∈ ks then h r.1 else if r.1 ∈ st.ks then (i : Int) else r.1) = i := hk'
                rw [H3 _ q2] at hk'
                exact absurd (hk' ▸ I.f0m.1) q2
          cases hb : st.bit with
          | false => rfl
          | true =>
            rw [fitN r hr r1.1 r1.2 hb] at hf
            cases hf
        · intro hb
          apply Classical.byContradiction
          intro hno
          have all : ∀ r ∈ E, r.1 ∈ st.ks → r.1 ∉ ks → fitB st.s r = true := fun r hr a b => by
            cases q : fitB st.s r with
            | true => rfl
            | false => exact absurd ⟨r, hr, q, H2 _ a b⟩ hno
          have hx : VE E fun c => if c ∈ st.ks ∧ c ∉ ks then st.s c else 0 := fun r hr => by
            unfold rdx
            by_cases q : r.1 ∈ st.ks ∧ r.1 ∉ ks
            · have q2 := (cl r hr).mp q
              have e := all r hr q.1 q.2
              unfold fitB at e
              rw [decide_eq_true_eq] at e
              have sq := (I.sg _ q2.1 q2.2).sq
              dsimp only
              rw [if_pos q, if_pos q2, e, Int.mul_assoc, sq, Int.mul_one, Int.sub_self]
            · have q2 : ¬ (r.2.1 ∈ st.ks ∧ r.2.1 ∉ ks) := fun z => q ((cl r hr).mpr z)
              dsimp only
              rw [if_neg q, if_neg q2, Int.mul_zero, Int.sub_self]
          have := I.bad hb _ hx
          have this : (if (i : Int) ∈ st.ks ∧ (i : Int) ∉ ks then st.s i else 0) = 0 := this
          rw [if_pos I.f0m, I.sf] at this
          omega
      cases hb : st.bit with
      | false => rw [key.mpr hb]; rfl
      | true =>
        cases q : badB E (fun c => if c ∈ ks then h c else if c ∈ st.ks then (i : Int) else c) st.s i with
        | false => rfl
        | true => rw [key.mp q] at hb; cases hb
end
end Pf

set_option maxRecDepth 100000
/-! M8: what all searches have found. -/
namespace Pf
section
variable {n : Nat} {E : List Road} {ks : List Int} {s h : Int → Int} {fo : List Bool}
theorem Gl.allIn (G : Gl n E n ks s h fo) {c : Int} (h0 : 0 ≤ c) (h1 : c < n) : c ∈ ks := by
  have := G.lt c.toNat (by omega)
  rwa [show ((c.toNat : Nat) : Int) = c by omega] at this
theorem Gl.lab (G : Gl n E n ks s h fo) (rN : ∀ r ∈ E, InN n r) : Lab E h (fun c => if c ∈ ks then s c else 1) where
  le := fun c => by
    by_cases q : c ∈ ks
    · exact (G.hk c q).1.2
    · rw [G.ho c q]; exact Int.le_refl _
  nn := fun c h0 => by
    by_cases q : c ∈ ks
    · exact (G.hk c q).1.1
    · rw [G.ho c q]; exact h0
  id := fun c => by
    by_cases q : c ∈ ks
    · exact (G.hk c q).2.2.1
    · rw [G.ho c q, G.ho c q]
  s1 := fun c => by
    by_cases q : c ∈ ks
    · rw [if_pos q]; exact G.s1 c q
    · rw [if_neg q]; exact .inl rfl
  sh := fun c => by
    by_cases q : c ∈ ks
    · rw [if_pos (G.hk c q).2.2.2]; exact G.sh c q
    · rw [G.ho c q, if_neg q]
  rd := fun r hr => G.rd r hr (G.allIn (rN r hr).1.1 (rN r hr).1.2)
  pot := fun f hf c => by
    by_cases q : c ∈ ks
    · exact G.pot c q f hf
    · rw [G.ho c q]
  vec := fun x hx c => by
    by_cases q : c ∈ ks
    · rw [if_pos q]; exact G.vec c q x hx
    · rw [if_neg q, G.ho c q, Int.one_mul]
theorem Gl.badS (G : Gl n E n ks s h fo) (rN : ∀ r ∈ E, InN n r) (k : Int) : badB E h (fun c => if c ∈ ks then s c else 1) k = badB E h s k := by
  rw [Bool.eq_iff_iff, badB_iff, badB_iff]
  have e : ∀ r ∈ E, fitB (fun c => if c ∈ ks then s c else 1) r = fitB s r := fun r hr => fitS (if_pos (G.allIn (rN r hr).1.1 (rN r hr).1.2)) (if_pos (G.allIn (rN r hr).2.1 (rN r hr).2.2))
  exact ⟨fun ⟨r, hr, hf, hk⟩ => ⟨r, hr, by rw [← e r hr]; exact hf, hk⟩, fun ⟨r, hr, hf, hk⟩ => ⟨r, hr, by rw [e r hr]; exact hf, hk⟩⟩
/-- the balanced pieces found -/
theorem Gl.count (G : Gl n E n ks s h fo) (sg : Sgs E) (rN : ∀ r ∈ E, InN n r) : (fo.filter fun b => b).length = bV n E := by
  rw [bV_lab (G.lab rN) sg, G.fo]
  unfold hdsB
  rw [List.filter_map, List.length_map, List.filter_filter]
  congr 1
  apply List.filter_congr
  intro k _
  rw [G.badS rN, Bool.and_comm]
  rfl
end
end Pf

set_option maxRecDepth 100000
/-! U6: while loops by an invariant; the search in the law's own words. -/
namespace Pf
open PySem
theorem nx_whl {Γ : Nat → Fn} {ss : Sms} {st : St} {P : Out → Prop} {fuel : Nat} {tmp : List Nat} {c : Ex} {body : Sms} (I : St → Prop) (μ : St → Nat) (h0 : I (clear tmp st)) (hμ : μ (clear tmp st) < fuel + srcLen st.src)
    (hs : ∀ s, I s → ∃ b s1, eval Γ c s = some (.dat (.bool b), s1) ∧ (b = false → Nx Γ ss s1 P) ∧ (b = true → Nx Γ body s1 fun o => ∃ s2, (o = .nx s2 ∨ o = .ct s2) ∧ I (clear tmp s2) ∧ μ (clear tmp s2) < μ s)) : Nx Γ (.cons (.whl fuel tmp c body) ss) st P := by
  have key : ∀ (m : Nat) (s : St), I (clear tmp s) → μ (clear tmp s) < m → ∃ s', whlRun tmp (fun s => asBool (eval Γ c s)) (fun s => execs Γ body s) m s = some (.nx s') ∧ Nx Γ ss s' P := by
    intro m
    induction m with
    | zero => intro s _ h; omega
    | succ m ih =>
      intro s hI hm
      obtain ⟨b, s1, e1, k1, k2⟩ := hs _ hI
      cases b with
      | false =>
        refine ⟨s1, ?_, k1 rfl⟩
        simp only [whlRun, e1, asBool_yes, Option.bind_some, Bool.false_eq_true, if_false]
      | true =>
        obtain ⟨o, e2, s2, ho, hI2, hm2⟩ := k2 rfl
        obtain ⟨s', e3, k3⟩ := ih s2 hI2 (by omega)
        refine ⟨s', ?_, k3⟩
        rcases ho with rfl | rfl
        · simp only [whlRun, e1, asBool_yes, Option.bind_some, if_true, e2]
          exact e3
        · simp only [whlRun, e1, asBool_yes, Option.bind_some, if_true, e2]
          exact e3
  obtain ⟨s', e, k⟩ := key _ st h0 hμ
  refine nx_step ?_ k
  simp only [exec]
  exact e
/-! a dict from ints to ints -/
def kvD (ks : List Int) (s : Int → Int) : List (D × D) := ks.map fun c => (.int c, .int (s c))
theorem kvD_in (ks : List Int) (s : Int → Int) (o : Int) : evIn (.int o) (dctD false (kvD ks s)) = some (decide (o ∈ ks)) := by
  show (if keyOk false (.int o) = true then some ((kvD ks s).any fun p => PyData.eqv p.1 (.int o)) else none) = _
  rw [if_pos (show keyOk false (.int o) = true from rfl)]
  congr 1
  rw [Bool.eq_iff_iff, List.any_eq_true, decide_eq_true_eq]
  constructor
  · rintro ⟨p, hp, e⟩
    obtain ⟨c, hc, rfl⟩ := List.mem_map.mp hp
    have : c = o := by simpa [PyData.eqv] using e
    exact this ▸ hc
  · exact fun h => ⟨_, List.mem_map.mpr ⟨o, h, rfl⟩, by simp [PyData.eqv]⟩
theorem kvD_find {s : Int → Int} {c : Int} : ∀ {ks : List Int}, c ∈ ks → dfind (kvD ks s) (.int c) = some (.int (s c))
  | [], h => by simp at h
  | k :: ks, h => by
    by_cases e : k = c
    · subst e
      simp [dfind, kvD, PyData.eqv]
    · have h' : c ∈ ks := by
        rcases List.mem_cons.mp h with z | z
        · exact absurd z.symm e
        · exact z
      have := kvD_find (s := s) h'
      simp only [dfind, kvD] at this ⊢
      rw [List.map_cons, List.find?_cons]
      have q : PyData.eqv (.int k) (.int c) = false := by simp [PyData.eqv, e]
      simp only [q]
      exact this
theorem kvD_idx {s : Int → Int} {c : Int} {ks : List Int} (h : c ∈ ks) : evIdx (dctD false (kvD ks s)) (.int c) = some (.int (s c)) := by
  show (if keyOk false (.int c) = true then dfind (kvD ks s) (.int c) else none) = _
  rw [if_pos (show keyOk false (.int c) = true from rfl), kvD_find h]
theorem kvD_put {s : Int → Int} {o v : Int} {ks : List Int} (h : o ∉ ks) : dput (kvD ks s) (.int o) (.int v) = kvD (ks ++ [o]) fun c => if c = o then v else s c := by
  unfold dput
  have q : ((kvD ks s).any fun p => PyData.eqv p.1 (.int o)) = false := by
    rw [List.any_eq_false]
    rintro p hp
    obtain ⟨c, hc, rfl⟩ := List.mem_map.mp hp
    have : c ≠ o := fun z => h (z ▸ hc)
    simp [PyData.eqv, this]
  rw [q]
  simp only [Bool.false_eq_true, if_false]
  unfold kvD
  rw [List.map_append]
  congr 1
  · apply List.map_congr_left
    intro c hc
    dsimp only
    rw [if_neg (fun (z : c = o) => h (z ▸ hc))]
  · simp
end Pf

set_option maxRecDepth 100000
/-! U7: the law's own search (bits). -/
namespace Pf
open PySem
def l_bits1 : Sms := (.cons (.ite (.and2 (.op2 .eq (.var 14) (.var 9)) (.op2 .notin (.var 15) (.var 4))) (.cons (.setI 4 (.var 15) (.op2 .mul (.var 13) (.idx (.var 4) (.var 9)))) (.cons (.app 7 (.var 15)) .nil)) (.cons (.ite (.and2 (.op2 .eq (.var 14) (.var 9)) (.op2 .ne (.idx (.var 4) (.var 15)) (.op2 .mul (.var 13) (.idx (.var 4) (.var 9))))) (.cons (.set 8 (.cst (.bool false))) .nil) .nil) .nil)) .nil)
/-- a state of the search -/
abbrev bitS (A B C R : Sl) (st : SS) (fo : Sl) (f0 : Sl) (x9 x10 x11 x12 x13 x14 x15 : Sl) : St := ⟨[A, B, C, R, .dct false (kvD st.ks st.s), fo, f0, .lst (st.line.map .int), .dat (.bool st.bit), x9, x10, x11, x12, x13, x14, x15], none⟩
section
variable {Γ : Nat → Fn} {A B C R fo f0 x10 x11 x12 : Sl} {st : SS} {here t one o : Int}
theorem bits_vis (tS : Sg t) (hh : here ∈ st.ks) (ho : one = here → o ∉ st.ks ∨ o ∈ st.ks) (sz : st.ks.length < 1000000) (sl : st.line.length < 1000000) (P : Out → Prop)
    (k : P (.nx (bitS A B C R (vis here t one o st) fo f0 (.dat (.int here)) x10 x11 x12 (.dat (.int t)) (.dat (.int one)) (.dat (.int o))))) :
    Nx Γ l_bits1 (bitS A B C R st fo f0 (.dat (.int here)) x10 x11 x12 (.dat (.int t)) (.dat (.int one)) (.dat (.int o))) P := by
  have t1 := sign_small tS
  have i1 := kvD_in st.ks st.s o
  have i2 := kvD_idx (s := st.s) hh
  have z1 : (kvD st.ks st.s).length < sizeLine := by rw [sizeLine_eq]; simp [kvD]; omega
  have z2 : st.line.length < sizeLine := by rw [sizeLine_eq]; omega
  unfold l_bits1
  by_cases e : one = here
  · by_cases h1 : o ∈ st.ks
    · have i3 := kvD_idx (s := st.s) h1
      refine nx_no (st1 := bitS A B C R st fo f0 (.dat (.int here)) x10 x11 x12 (.dat (.int t)) (.dat (.int one)) (.dat (.int o))) ?_ ?_
      · simp [evEq_int, e, i1, h1]
      by_cases h2 : st.s o = t * st.s here
      · refine nx_skip (st1 := bitS A B C R st fo f0 (.dat (.int here)) x10 x11 x12 (.dat (.int t)) (.dat (.int one)) (.dat (.int o))) ?_ (nx_nil (nx_nil ?_))
        · simp [evEq_int, e, i2, i3, t1, h2]
        · have : vis here t one o st = st := by
            unfold vis
            rw [if_neg (fun z => z.2 h1), if_neg (fun z => z.2 h2)]
          rw [this] at k
          exact k
      · refine nx_yes (st1 := bitS A B C R st fo f0 (.dat (.int here)) x10 x11 x12 (.dat (.int t)) (.dat (.int one)) (.dat (.int o))) ?_ (nx_step (st1 := bitS A B C R (vis here t one o st) fo f0 (.dat (.int here)) x10 x11 x12 (.dat (.int t)) (.dat (.int one)) (.dat (.int o))) ?_ (nx_nil (nx_nil (nx_nil k))))
        · simp [evEq_int, e, i2, i3, t1, h2]
        · have : vis here t one o st = ⟨st.ks, st.line, st.s, false⟩ := by
            unfold vis
            rw [if_neg (fun z => z.2 h1), if_pos ⟨e, h2⟩]
          rw [this]
          simp
    · have p1 := kvD_put (s := st.s) (v := t * st.s here) h1
      refine nx_yes (st1 := bitS A B C R st fo f0 (.dat (.int here)) x10 x11 x12 (.dat (.int t)) (.dat (.int one)) (.dat (.int o))) ?_ ?_
      · simp [evEq_int, e, i1, h1]
      have : vis here t one o st = ⟨st.ks ++ [o], st.line ++ [o], fun c => if c = o then t * st.s here else st.s c, st.bit⟩ := by
        unfold vis
        rw [if_pos ⟨e, h1⟩]
      rw [this] at k
      refine nx_step (st1 := ⟨[A, B, C, R, .dct false (kvD (st.ks ++ [o]) fun c => if c = o then t * st.s here else st.s c), fo, f0, .lst (st.line.map .int), .dat (.bool st.bit), .dat (.int here), x10, x11, x12, .dat (.int t), .dat (.int one), .dat (.int o)], none⟩) ?_ ?_
      · have kk : keyOk false (.int o) = true := rfl
        simp [i2, t1, kk, z1, p1]
      refine nx_step (st1 := ⟨[A, B, C, R, .dct false (kvD (st.ks ++ [o]) fun c => if c = o then t * st.s here else st.s c), fo, f0, .lst ((st.line ++ [o]).map .int), .dat (.bool st.bit), .dat (.int here), x10, x11, x12, .dat (.int t), .dat (.int one), .dat (.int o)], none⟩) ?_ (nx_nil (nx_nil k))
      simp [z2]
  · have : vis here t one o st = st := by
      unfold vis
      rw [if_neg (fun z => e z.1), if_neg (fun z => e z.1)]
    rw [this] at k
    refine nx_no (st1 := bitS A B C R st fo f0 (.dat (.int here)) x10 x11 x12 (.dat (.int t)) (.dat (.int one)) (.dat (.int o))) ?_ (nx_skip (st1 := bitS A B C R st fo f0 (.dat (.int here)) x10 x11 x12 (.dat (.int t)) (.dat (.int one)) (.dat (.int o))) ?_ (nx_nil (nx_nil k)))
    · simp [evEq_int, e]
    · simp [evEq_int, e]
def l_bits2 : Sms := (.cons (.asgT (.tup [(.name 11), (.name 12), (.name 13)]) (.idx (.var 3) (.var 10))) (.cons (.for [14, 15] (.tup [(.name 14), (.name 15)]) (.seq (.tup (.cons (.tup (.cons (.var 11) (.cons (.var 12) .nil))) (.cons (.tup (.cons (.var 12) (.cons (.var 11) .nil))) .nil)))) l_bits1) .nil))
variable {rs : List Road}
theorem vis_sub (here t one o : Int) (st : SS) {c : Int} (h : c ∈ st.ks) : c ∈ (vis here t one o st).ks := by
  unfold vis
  split
  · exact List.mem_append_left _ h
  · split <;> exact h
/-- one road -/
theorem bits_road {i : Int} (i0 : 0 ≤ i) (i1 : i < rs.length) (tS : Sg (roadOf rs i).2.2) (hh : here ∈ st.ks) (sz : st.ks.length < 500000) (sl : st.line.length < 500000) :
    Nx Γ l_bits2 (bitS A B C (.dat (.tuple (rs.map rdD))) st fo f0 (.dat (.int here)) (.dat (.int i)) .un .un .un .un .un) fun o => ∃ s2, (o = .nx s2 ∨ o = .ct s2) ∧ clear [10, 11, 12, 13, 14, 15] s2 = bitS A B C (.dat (.tuple (rs.map rdD))) (visR here st (roadOf rs i)) fo f0 (.dat (.int here)) .un .un .un .un .un .un := by
  have e1 : evIdx (.tuple (rs.map rdD)) (.int i) = some (rdD (roadOf rs i)) := road_at i0 i1
  generalize roadOf rs i = r at e1 tS
  have v1 := vis_grow here r.2.2 r.1 r.2.1 st
  have m1 := vis_more here r.2.2 r.1 r.2.1 st
  have g1 : (vis here r.2.2 r.1 r.2.1 st).ks.length ≤ st.ks.length + 1 := by
    unfold vis
    split
    · simp
    · split <;> simp
  unfold l_bits2
  refine nx_step (st1 := bitS A B C (.dat (.tuple (rs.map rdD))) st fo f0 (.dat (.int here)) (.dat (.int i)) (.dat (.int r.1)) (.dat (.int r.2.1)) (.dat (.int r.2.2)) .un .un) ?_ ?_
  · simp [e1, rdD]
  have hI : evalI Γ (.seq (.tup (.cons (.tup (.cons (.var 11) (.cons (.var 12) .nil))) (.cons (.tup (.cons (.var 12) (.cons (.var 11) .nil))) .nil)))) (bitS A B C (.dat (.tuple (rs.map rdD))) st fo f0 (.dat (.int here)) (.dat (.int i)) (.dat (.int r.1)) (.dat (.int r.2.1)) (.dat (.int r.2.2)) .un .un) = some ([.tuple [.int r.1, .int r.2.1], .tuple [.int r.2.1, .int r.1]], bitS A B C (.dat (.tuple (rs.map rdD))) st fo f0 (.dat (.int here)) (.dat (.int i)) (.dat (.int r.1)) (.dat (.int r.2.1)) (.dat (.int r.2.2)) .un .un) := by
    simp [evalI]
  let W : Nat → SS := fun j => if j = 0 then st else if j = 1 then vis here r.2.2 r.1 r.2.1 st else visR here st r
  refine nx_loop (I := fun j s => s = bitS A B C (.dat (.tuple (rs.map rdD))) (W j) fo f0 (.dat (.int here)) (.dat (.int i)) (.dat (.int r.1)) (.dat (.int r.2.1)) (.dat (.int r.2.2)) .un .un) hI rfl ?_ ?_
  · rintro j d s0 hd rfl
    match j, hd with
    | 0, hd =>
      simp only [List.getElem?_cons_zero, Option.some.injEq] at hd
      subst hd
      refine ⟨_, rfl, ?_⟩
      exact bits_vis (st := st) tS hh (fun _ => Classical.em _ |>.symm) (by omega) (by omega) _ ⟨_, .inl rfl, rfl⟩
    | 1, hd =>
      simp only [List.getElem?_cons_succ, List.getElem?_cons_zero, Option.some.injEq] at hd
      subst hd
      refine ⟨_, rfl, ?_⟩
      exact bits_vis (st := vis here r.2.2 r.1 r.2.1 st) tS (vis_sub _ _ _ _ _ hh) (fun _ => Classical.em _ |>.symm) (by omega) (by omega) _ ⟨_, .inl rfl, rfl⟩
    | j + 2, hd => simp at hd
  · rintro st' rfl
    exact nx_nil ⟨_, .inl rfl, rfl⟩
theorem visR_sub (here : Int) (st : SS) (r : Road) {c : Int} (h : c ∈ st.ks) : c ∈ (visR here st r).ks := vis_sub _ _ _ _ _ (vis_sub _ _ _ _ _ h)
theorem vis_one (here t one o : Int) (st : SS) : (vis here t one o st).ks.length ≤ st.ks.length + 1 ∧ (vis here t one o st).line.length ≤ st.line.length + 1 := by
  unfold vis
  split
  · simp
  · split <;> simp
theorem visR_two (here : Int) (st : SS) (r : Road) : (visR here st r).ks.length ≤ st.ks.length + 2 ∧ (visR here st r).line.length ≤ st.line.length + 2 := by
  have h1 := vis_one here r.2.2 r.1 r.2.1 st
  have h2 := vis_one here r.2.2 r.2.1 r.1 (vis here r.2.2 r.1 r.2.1 st)
  unfold visR
  omega
theorem visAll_sub (here : Int) : ∀ (M : List Road) (st : SS) {c : Int}, c ∈ st.ks → c ∈ (M.foldl (visR here) st).ks
  | [], _, _, h => h
  | r :: M, st, _, h => visAll_sub here M (visR here st r) (visR_sub here st r h)
theorem visAll_two (here : Int) : ∀ (M : List Road) (st : SS), (M.foldl (visR here) st).ks.length ≤ st.ks.length + 2 * M.length ∧ (M.foldl (visR here) st).line.length ≤ st.line.length + 2 * M.length
  | [], st => by simp
  | r :: M, st => by
    have h1 := visR_two here st r
    have h2 := visAll_two here M (visR here st r)
    rw [List.foldl_cons, List.length_cons]
    omega
/-- all roads of the lot -/
theorem bits_lot {lot : List Int} (L : LotOk rs lot) (sgs : ∀ i ∈ lot, Sg (roadOf rs i).2.2) (hh : here ∈ st.ks) (sz : st.ks.length < 100000) (sl : st.line.length < 100000) (ss : Sms) (P : Out → Prop)
    (k : Nx Γ ss (bitS A (.dat (tI lot)) C (.dat (.tuple (rs.map rdD))) ((pick rs lot).foldl (visR here) st) fo f0 (.dat (.int here)) .un .un .un .un .un .un) P) :
    Nx Γ (.cons (.for [10, 11, 12, 13, 14, 15] (.name 10) (.seq (.var 1)) l_bits2) ss) (bitS A (.dat (tI lot)) C (.dat (.tuple (rs.map rdD))) st fo f0 (.dat (.int here)) .un .un .un .un .un .un) P := by
  have hI : evalI Γ (.seq (.var 1)) (bitS A (.dat (tI lot)) C (.dat (.tuple (rs.map rdD))) st fo f0 (.dat (.int here)) .un .un .un .un .un .un) = some (lot.map .int, bitS A (.dat (tI lot)) C (.dat (.tuple (rs.map rdD))) st fo f0 (.dat (.int here)) .un .un .un .un .un .un) := by simp [evalI]
  refine nx_loop (I := fun j s => s = bitS A (.dat (tI lot)) C (.dat (.tuple (rs.map rdD))) ((pick rs (lot.take j)).foldl (visR here) st) fo f0 (.dat (.int here)) .un .un .un .un .un .un) hI rfl ?_ ?_
  · rintro j d s0 hd rfl
    have hlt : j < lot.length := by
      have := (List.getElem?_eq_some_iff.mp hd).1
      simpa using this
    rw [List.getElem?_map, List.getElem?_eq_getElem hlt] at hd
    simp only [Option.map_some, Option.some.injEq] at hd
    subst hd
    have hm := List.getElem_mem hlt
    obtain ⟨i0, i1⟩ := L.ix _ hm
    refine ⟨_, bindT_name _ _ _, ?_⟩
    have pl : (pick rs (lot.take j)).length ≤ 1000 := by
      unfold pick
      rw [List.length_map, List.length_take]
      have := L.len
      omega
    have b := visAll_two here (pick rs (lot.take j)) st
    obtain ⟨o, e, s2, h1, h2⟩ := bits_road (Γ := Γ) (A := A) (B := .dat (tI lot)) (C := C) (fo := fo) (f0 := f0) (st := (pick rs (lot.take j)).foldl (visR here) st) (here := here) i0 i1 (sgs _ hm) (visAll_sub here _ st hh) (by omega) (by omega)
    refine ⟨o, e, s2, h1, ?_⟩
    rw [h2]
    have tk : pick rs (lot.take (j + 1)) = pick rs (lot.take j) ++ [roadOf rs lot[j]] := by
      rw [List.take_succ_eq_append_getElem hlt]
      unfold pick
      rw [List.map_append]
      rfl
    dsimp only
    rw [tk, List.foldl_append]
    rfl
  · rintro st' rfl
    rw [List.length_map, List.take_length]
    exact k
end
end Pf

set_option maxRecDepth 100000
/-! U8: the law's own search, whole. -/
namespace Pf
open PySem
def w_bits : Sms := (.cons (.set 9 (.pop 7 .nop)) (.cons (.for [10, 11, 12, 13, 14, 15] (.name 10) (.seq (.var 1)) l_bits2) .nil))
def l_bits3 : Sms := (.cons (.ite (.op2 .notin (.var 6) (.var 4)) (.cons (.asgX [(.ix 4 (.var 6)), (.nm 7), (.nm 8)] (.cons (.cst (.int 1)) (.cons (.lst (.cons (.var 6) .nil)) (.cons (.cst (.bool true)) .nil)))) (.cons (.whl 1000000 [9, 10, 11, 12, 13, 14, 15] (.op2 .ne (.var 7) (.lst .nil)) w_bits) (.cons (.app 5 (.var 8)) .nil))) .nil) .nil)
def b_bits : Sms := (.cons (.asgT (.tup [(.name 2), (.name 3)]) (.var 0)) (.cons (.asgN [4, 5] (.cons (.dnew false) (.cons (.lst .nil) .nil))) (.cons (.for [6, 7, 8, 9, 10, 11, 12, 13, 14, 15] (.name 6) (.rng1 (.var 2)) l_bits3) (.cons (.ret (.var 5)) .nil))))
section
variable {Γ : Nat → Fn} {n : Nat} {rs : List Road} {lot : List Int} {A C fo f0 : Sl}
theorem pick_in (F : FrOk n rs) (L : LotOk rs lot) : ∀ r ∈ pick rs lot, InN n r := fun r hr => ⟨(F.g r (pick_mem L hr)).1, (F.g r (pick_mem L hr)).2.1⟩
/-- one search -/
theorem bits_whl (F : FrOk n rs) (L : LotOk rs lot) {K0 : List Int} {s0 : Int → Int} {g0 : Int} {st : SS} (O : Open n (pick rs lot) K0 s0 g0 st) (cl : ∀ r ∈ pick rs lot, r.1 ∈ K0 ↔ r.2.1 ∈ K0) (ss : Sms) (P : Out → Prop)
    (k : ∀ st', Open n (pick rs lot) K0 s0 g0 st' → st'.line = [] → Nx Γ ss (bitS A (.dat (tI lot)) C (.dat (.tuple (rs.map rdD))) st' fo f0 .un .un .un .un .un .un .un) P) :
    Nx Γ (.cons (.whl 1000000 [9, 10, 11, 12, 13, 14, 15] (.op2 .ne (.var 7) (.lst .nil)) w_bits) ss) (bitS A (.dat (tI lot)) C (.dat (.tuple (rs.map rdD))) st fo f0 .un .un .un .un .un .un .un) P := by
  let E := pick rs lot
  let μ : St → Nat := fun s => match s.get 4, s.get 7 with
    | .dct _ kvs, .lst l => 2 * (n - kvs.length) + l.length
    | _, _ => 0
  have hμ : ∀ (st : SS) (x9 x10 x11 x12 x13 x14 x15 : Sl), μ (bitS A (.dat (tI lot)) C (.dat (.tuple (rs.map rdD))) st fo f0 x9 x10 x11 x12 x13 x14 x15) = meas n st := fun st _ _ _ _ _ _ _ => by
    show 2 * (n - (kvD st.ks st.s).length) + (st.line.map PyData.int).length = meas n st
    simp [kvD, meas]
  have hn := F.n1
  have bnd : ∀ st, Open n E K0 s0 g0 st → st.ks.length ≤ 1000 ∧ st.line.length ≤ 1000 := fun st O => by
    have h1 := nodup_le O.sr.nd O.sr.rg
    have h2 := nodup_le O.sr.ln fun c hc => O.sr.rg c (O.sr.sub c hc).1
    omega
  refine nx_whl (I := fun s => ∃ st', s = bitS A (.dat (tI lot)) C (.dat (.tuple (rs.map rdD))) st' fo f0 .un .un .un .un .un .un .un ∧ Open n E K0 s0 g0 st') μ ⟨st, rfl, O⟩ ?_ ?_
  · have : clear [9, 10, 11, 12, 13, 14, 15] (bitS A (.dat (tI lot)) C (.dat (.tuple (rs.map rdD))) st fo f0 .un .un .un .un .un .un .un) = bitS A (.dat (tI lot)) C (.dat (.tuple (rs.map rdD))) st fo f0 .un .un .un .un .un .un .un := rfl
    rw [this, hμ]
    have := bnd st O
    unfold meas
    simp only [srcLen]
    omega
  · rintro s ⟨st', rfl, O'⟩
    have en := eqNil (st'.line.map .int) (fun d hd => by
      obtain ⟨_, _, rfl⟩ := List.mem_map.mp hd
      rfl)
    rw [List.isEmpty_map] at en
    refine ⟨!st'.line.isEmpty, bitS A (.dat (tI lot)) C (.dat (.tuple (rs.map rdD))) st' fo f0 .un .un .un .un .un .un .un, ?_, fun hb => ?_, fun hb => ?_⟩
    · simp [en]
    · refine k st' O' ?_
      cases hl : st'.line with
      | nil => rfl
      | cons a l => rw [hl] at hb; simp at hb
    · have hne : st'.line ≠ [] := fun z => by rw [z] at hb; simp at hb
      have hl : st'.line = st'.line.dropLast ++ [st'.line.getLast hne] := (List.dropLast_concat_getLast hne).symm
      generalize st'.line.dropLast = l at hl
      generalize st'.line.getLast hne = here at hl
      obtain ⟨O2, m2⟩ := O'.turn cl (pick_sgs F L) (pick_in F L) hl
      have b := bnd st' O'
      have hh := (O'.sr.sub here (by rw [hl]; simp)).1
      refine nx_step (st1 := bitS A (.dat (tI lot)) C (.dat (.tuple (rs.map rdD))) ⟨st'.ks, l, st'.s, st'.bit⟩ fo f0 (.dat (.int here)) .un .un .un .un .un .un) ?_ ?_
      · have ll : st'.line.length = l.length + 1 := by rw [hl]; simp
        simp [hl, eval]
      · refine bits_lot (here := here) (st := ⟨st'.ks, l, st'.s, st'.bit⟩) L (fun i hi => (roadOf_ok F (L.ix i hi).1 (L.ix i hi).2).2.2) hh (by show st'.ks.length < _; omega) (by have : st'.line.length = l.length + 1 := (by rw [hl]; simp); show l.length < _; omega) _ _ (nx_nil ⟨_, .inl rfl, ⟨_, rfl, O2⟩, ?_⟩)
        have e : clear [9, 10, 11, 12, 13, 14, 15] (bitS A (.dat (tI lot)) C (.dat (.tuple (rs.map rdD))) ((pick rs lot).foldl (visR here) ⟨st'.ks, l, st'.s, st'.bit⟩) fo f0 (.dat (.int here)) .un .un .un .un .un .un) = bitS A (.dat (tI lot)) C (.dat (.tuple (rs.map rdD))) (turnS E here l st') fo f0 .un .un .un .un .un .un .un := rfl
        rw [e, hμ, hμ]
        exact m2
/-- one first crossing -/
theorem bits_stage (F : FrOk n rs) (L : LotOk rs lot) {i : Nat} {ks : List Int} {s h : Int → Int} {fl : List Bool} (G : Gl n (pick rs lot) i ks s h fl) (hi : i < n) {x7 x8 : Sl} :
    Nx Γ l_bits3 ⟨[A, .dat (tI lot), C, .dat (.tuple (rs.map rdD)), .dct false (kvD ks s), .lst (fl.map .bool), .dat (.int i), .un, .un, .un, .un, .un, .un, .un, .un, .un], none⟩ fun o => ∃ s2, (o = .nx s2 ∨ o = .ct s2) ∧
      ∃ ks' s' h' fl', Gl n (pick rs lot) (i + 1) ks' s' h' fl' ∧ clear [6, 7, 8, 9, 10, 11, 12, 13, 14, 15] s2 = ⟨[A, .dat (tI lot), C, .dat (.tuple (rs.map rdD)), .dct false (kvD ks' s'), .lst (fl'.map .bool), .un, .un, .un, .un, .un, .un, .un, .un, .un, .un], none⟩ := by
  have i1 := kvD_in ks s i
  have kl := nodup_le G.nd G.rg
  have hn := F.n1
  unfold l_bits3
  by_cases q : (i : Int) ∈ ks
  · refine nx_skip (st1 := ⟨[A, .dat (tI lot), C, .dat (.tuple (rs.map rdD)), .dct false (kvD ks s), .lst (fl.map .bool), .dat (.int i), .un, .un, .un, .un, .un, .un, .un, .un, .un], none⟩) ?_ (nx_nil ⟨_, .inl rfl, ks, s, h, fl, G.skip q, rfl⟩)
    simp [i1, q]
  · have kk : keyOk false (.int (i : Int)) = true := rfl
    have z1 : (kvD ks s).length < sizeLine := by rw [sizeLine_eq]; simp [kvD]; omega
    have p1 := kvD_put (s := s) (v := 1) q
    have fz : fl.length < sizeLine := by
      have e := congrArg List.length G.fo
      have l2 := List.length_filter_le (fun (k : Nat) => decide (h k = k)) (List.range i)
      unfold hdsB at e
      rw [List.length_map] at e
      rw [List.length_range] at l2
      rw [sizeLine_eq]; omega
    refine nx_yes (st1 := ⟨[A, .dat (tI lot), C, .dat (.tuple (rs.map rdD)), .dct false (kvD ks s), .lst (fl.map .bool), .dat (.int i), .un, .un, .un, .un, .un, .un, .un, .un, .un], none⟩) ?_ ?_
    · simp [i1, q]
    refine nx_step (st1 := bitS A (.dat (tI lot)) C (.dat (.tuple (rs.map rdD))) ⟨ks ++ [(i : Int)], [(i : Int)], fun c => if c = i then 1 else s c, true⟩ (.lst (fl.map .bool)) (.dat (.int i)) .un .un .un .un .un .un .un) ?_ ?_
    · simp [kk, z1, p1]
    refine bits_whl F L (Open.start G.nd G.rg q (by omega)) G.cl _ _ fun st' O' hl => ?_
    refine nx_step (st1 := bitS A (.dat (tI lot)) C (.dat (.tuple (rs.map rdD))) st' (.lst ((fl ++ [st'.bit]).map .bool)) (.dat (.int i)) .un .un .un .un .un .un .un) ?_ (nx_nil (nx_nil ⟨_, .inl rfl, _, _, _, _, G.next (pick_sgs F L) (pick_in F L) q O' hl, rfl⟩))
    simp [fz]
structure HasBits (Γ : Nat → Fn) (p : Nat) : Prop where
  run : ∀ (n : Nat) (rs : List Road) (lot : List Int), FrOk n rs → LotOk rs lot → ∃ ks s h fl, Gl n (pick rs lot) n ks s h fl ∧ (Γ p).runP [frD n rs, tI lot] = some (.lst (fl.map .bool))
theorem bits_run (F : FrOk n rs) (L : LotOk rs lot) : ∃ ks s h fl, Gl n (pick rs lot) n ks s h fl ∧ runP Γ 14 b_bits [frD n rs, tI lot] = some (.lst (fl.map .bool)) := by
  have hn := F.n1
  let T : List Int → (Int → Int) → List Bool → St := fun ks s fl => ⟨[.dat (frD n rs), .dat (tI lot), .dat (.int n), .dat (.tuple (rs.map rdD)), .dct false (kvD ks s), .lst (fl.map .bool), .un, .un, .un, .un, .un, .un, .un, .un, .un, .un], none⟩
  have main : Nx Γ b_bits ⟨[.dat (frD n rs), .dat (tI lot), .un, .un, .un, .un, .un, .un, .un, .un, .un, .un, .un, .un, .un, .un], none⟩ fun o => ∃ ks s h fl, Gl n (pick rs lot) n ks s h fl ∧ ∃ st', o = .rt (.lst (fl.map .bool)) st' := by
    unfold b_bits
    refine nx_step (st1 := ⟨[.dat (frD n rs), .dat (tI lot), .dat (.int n), .dat (.tuple (rs.map rdD)), .un, .un, .un, .un, .un, .un, .un, .un, .un, .un, .un, .un], none⟩) ?_ ?_
    · simp [frD]
    refine nx_step (st1 := T [] (fun _ => 1) []) ?_ ?_
    · simp [T, kvD, eval]
    have hI : evalI Γ (.rng1 (.var 2)) (T [] (fun _ => 1) []) = some (rngN n, T [] (fun _ => 1) []) := rng_eval rfl (by omega)
    refine nx_loop (I := fun i st => ∃ ks s h fl, Gl n (pick rs lot) i ks s h fl ∧ st = T ks s fl) hI ⟨_, _, _, _, Gl.start, rfl⟩ ?_ ?_
    · rintro i d s0 hd ⟨ks, s, h, fl, G, rfl⟩
      obtain ⟨hi, rfl⟩ := rngN_at hd
      refine ⟨_, bindT_name _ _ _, ?_⟩
      obtain ⟨o, e, s2, h1, ks', s', h', fl', G', h2⟩ := bits_stage (Γ := Γ) (A := .dat (frD n rs)) (C := .dat (.int n)) F L G hi (x7 := .un) (x8 := .un)
      exact ⟨o, e, s2, h1, ks', s', h', fl', G', h2⟩
    · rintro st' ⟨ks, s, h, fl, G, rfl⟩
      rw [show (rngN n).length = n by simp [rngN]] at G
      refine nx_rt (r := .lst (fl.map .bool)) (st1 := unAt (T ks s fl) 5) ?_ ⟨ks, s, h, fl, G, _, rfl⟩
      simp [T]
  obtain ⟨o, e, ks, s, h, fl, G, st', rfl⟩ := main
  exact ⟨ks, s, h, fl, G, runP_rt e⟩
end
end Pf

set_option maxRecDepth 100000
/-! U9: the law's rows and their worth. -/
namespace Pf
open PySem
section
variable {Γ Γ' : Nat → Fn}
theorem hasBits {p : Nat} (h : Γ p = .pure (runP Γ' 14 b_bits)) : HasBits Γ p := ⟨fun n rs lot F L => by rw [h]; exact bits_run F L⟩
def b_lat : Sms := (.cons (.asgT (.tup [(.name 2), (.name 3)]) (.tup (.cons (.cst (.int 0)) (.cons (.cst (.int 1)) .nil)))) (.cons (.for [4] (.name 4) (.seq (.var 0)) (.cons (.asgN [2, 3] (.cons (.op2 .add (.var 2) (.op2 .mul (.var 4) (.var 3))) (.cons (.op2 .mul (.var 3) (.var 1)) .nil))) .nil)) (.cons (.ret (.var 2)) .nil)))
/-- the powers stay small -/
def powS (x : Int) (m : Nat) : Prop := ∀ j, j ≤ m → smallI (x ^ j) = true
structure HasLat (Γ : Nat → Fn) (p : Nat) : Prop where
  run : ∀ (row : List Int) (x : Int), powS x row.length → (Γ p).runP [tI row, .int x] = some (.dat (.int (rowEv x row)))
theorem rowEv_snoc (x : Int) : ∀ (row : List Int) (a : Int), rowEv x (row ++ [a]) = rowEv x row + a * x ^ row.length
  | [], a => by
    show a + x * 0 = 0 + a * x ^ 0
    simp
  | b :: r, a => by
    show b + x * rowEv x (r ++ [a]) = b + x * rowEv x r + a * x ^ (r.length + 1)
    rw [rowEv_snoc x r a, Int.mul_add, Int.pow_succ, show x * (a * x ^ r.length) = a * (x ^ r.length * x) by ac_rfl]
    omega
theorem hasLat {p : Nat} (h : Γ p = .pure (runP Γ' 3 b_lat)) : HasLat Γ p := ⟨fun row x px => by
  rw [h]
  let S : Int → Int → St := fun t w => ⟨[.dat (tI row), .dat (.int x), .dat (.int t), .dat (.int w), .un], none⟩
  refine runP_eq ?_
  show Nx Γ' b_lat ⟨[.dat (tI row), .dat (.int x), .un, .un, .un], none⟩ _
  unfold b_lat
  refine nx_step (st1 := S 0 1) ?_ ?_
  · simp [S]
  have hI : evalI Γ' (.seq (.var 0)) (S 0 1) = some (row.map .int, S 0 1) := by simp [evalI, S]
  refine nx_loop (I := fun i st => st = S (rowEv x (row.take i)) (x ^ i)) hI ?_ ?_ ?_
  · show S 0 1 = S (rowEv x (row.take 0)) (x ^ 0)
    rw [Int.pow_zero]; rfl
  · rintro i d s0 hd rfl
    have hlt : i < row.length := by
      have := (List.getElem?_eq_some_iff.mp hd).1
      simpa using this
    rw [List.getElem?_map, List.getElem?_eq_getElem hlt] at hd
    simp only [Option.map_some, Option.some.injEq] at hd
    subst hd
    refine ⟨_, bindT_name _ _ _, ?_⟩
    have tk : rowEv x (row.take (i + 1)) = rowEv x (row.take i) + row[i] * x ^ i := by
      rw [List.take_succ_eq_append_getElem hlt, rowEv_snoc, List.length_take, Nat.min_eq_left (by omega)]
    have s1 := px i (by omega)
    refine nx_step (st1 := ⟨[.dat (tI row), .dat (.int x), .dat (.int (rowEv x (row.take (i + 1)))), .dat (.int (x ^ (i + 1))), .dat (.int row[i])], none⟩) ?_ (nx_nil ⟨_, .inl rfl, rfl⟩)
    rw [tk, Int.pow_succ]
    simp [S, s1]
  · rintro st' rfl
    rw [List.length_map, List.take_length]
    refine nx_rt (r := .dat (.int (rowEv x row))) (st1 := S (rowEv x row) (x ^ row.length)) ?_ ⟨_, rfl⟩
    simp [S]⟩
end
/-- all roads fit: told by any labels -/
theorem Lab.fits {L : List Road} {h s h' s' : Int → Int} (A : Lab L h s) (B : Lab L h' s') (sg : Sgs L) (hA : ∀ r ∈ L, fitB s r = true) : ∀ r ∈ L, fitB s' r = true := fun r hr => by
  cases q : fitB s' r with
  | true => rfl
  | false =>
    have hk : h (h r.1) = h r.1 := A.id _
    have e := A.bad_uniq B sg hk
    have b1 : badB L h' s' (h r.1) = true := badB_iff.mpr ⟨r, hr, q, by rw [A.uniq B]⟩
    rw [b1] at e
    obtain ⟨r', hr', hf, _⟩ := badB_iff.mp e
    rw [hA r' hr'] at hf
    cases hf
def balB (L : List Road) : Bool := L.all fun r => fitB (uf L).2 r
theorem balB_iff {L : List Road} : balB L = true ↔ ∀ r ∈ L, fitB (uf L).2 r = true := by simp [balB, List.all_eq_true]
theorem Gl.bal {n : Nat} {E : List Road} {ks : List Int} {s h : Int → Int} {fo : List Bool} (G : Gl n E n ks s h fo) (sg : Sgs E) (rN : ∀ r ∈ E, InN n r) : (fo.filter fun b => b).length = fo.length ↔ balB E = true := by
  have U : Lab E (uf E).1 (uf E).2 := uf_lab E fun r hr => ⟨sg r hr, (rN r hr).1.1, (rN r hr).2.1⟩
  have GL := G.lab rN
  rw [balB_iff, List.length_filter_eq_length_iff]
  have e1 : (∀ b ∈ fo, b = true) ↔ ∀ r ∈ E, fitB (fun c => if c ∈ ks then s c else 1) r = true := by
    rw [G.fo]
    constructor
    · intro hb r hr
      cases q : fitB (fun c => if c ∈ ks then s c else 1) r with
      | true => rfl
      | false =>
        have a := (rN r hr).1
        have k0 := GL.nn _ a.1
        have k1 := GL.le r.1
        have := hb (!badB E h s (h r.1)) (List.mem_map.mpr ⟨(h r.1).toNat, List.mem_filter.mpr ⟨List.mem_range.mpr (by omega), ?_⟩, ?_⟩)
        · rw [← G.badS rN, show badB E h (fun c => if c ∈ ks then s c else 1) (h r.1) = true from badB_iff.mpr ⟨r, hr, q, rfl⟩] at this
          cases this
        · rw [decide_eq_true_eq, show (((h r.1).toNat : Nat) : Int) = h r.1 by omega]
          exact GL.id _
        · rw [show (((h r.1).toNat : Nat) : Int) = h r.1 by omega]
    · rintro hf b hb
      obtain ⟨k, hk, rfl⟩ := List.mem_map.mp hb
      rw [← G.badS rN]
      cases q : badB E h (fun c => if c ∈ ks then s c else 1) k with
      | false => rfl
      | true =>
        obtain ⟨r, hr, hq, _⟩ := badB_iff.mp q
        rw [hf r hr] at hq
        cases hq
  rw [e1]
  exact ⟨GL.fits U sg, U.fits GL sg⟩
end Pf

set_option maxRecDepth 100000
/-! M9: the patterns of signed rows are all patterns. -/
namespace Pf
theorem rows_len {f : List Int → List (List Int)} (hf : ∀ r, ∀ q ∈ f r, q.length = r.length + 1) : ∀ (k : Nat), ∀ r ∈ rowsOf f k, r.length = k
  | 0, r, h => by
    simp only [rowsOf, List.mem_singleton] at h
    subst h; rfl
  | k + 1, r, h => by
    simp only [rowsOf, stepAll, List.mem_flatMap] at h
    obtain ⟨q, hq, hr⟩ := h
    rw [hf q r hr, rows_len hf k q hq]
theorem step_len (n : Int) (r q : List Int) (h : q ∈ stepRow n r) : q.length = r.length + 1 := by
  unfold stepRow at h
  obtain ⟨x, _, rfl⟩ := List.mem_map.mp h
  simp
theorem absI_or (x : Int) : x = absI x ∨ x = - absI x := by
  unfold absI
  split <;> omega
theorem rgI_mem {a b x : Int} (h1 : a ≤ x) (h2 : x < b) : x ∈ rgI a b := by
  unfold rgI
  exact List.mem_map.mpr ⟨(x - a).toNat, List.mem_range.mpr (by omega), by omega⟩
/-- every row of unlike sizes from 1 to n is a signed row -/
theorem rows_all {n : Nat} : ∀ (k : Nat) (row : List Int), row.length = k → (row.map absI).Nodup → (∀ x ∈ row, 1 ≤ absI x ∧ absI x ≤ n) → row ∈ rowsOf (stepRow n) k := by
  intro k
  induction k with
  | zero =>
    intro row h _ _
    rw [List.length_eq_zero_iff] at h
    subst h
    simp [rowsOf]
  | succ k ih =>
    intro row h nd rg
    have hne : row ≠ [] := fun z => by rw [z] at h; cases h
    have e : row = row.dropLast ++ [row.getLast hne] := (List.dropLast_concat_getLast hne).symm
    generalize hq : row.dropLast = q at e
    generalize row.getLast hne = x at e
    subst e
    rw [List.map_append, List.nodup_append] at nd
    obtain ⟨n1, _, n3⟩ := nd
    have hx := rg x (by simp)
    have hxq : absI x ∉ q.map absI := fun m => n3 _ m _ (by simp) rfl
    have hr : absI x ∈ restI n q := by
      unfold restI
      refine List.mem_filter.mpr ⟨rgI_mem hx.1 (by omega), ?_⟩
      rw [decide_eq_false hxq]; rfl
    simp only [rowsOf, stepAll, List.mem_flatMap]
    refine ⟨q, ih q (by simpa using h) n1 fun y hy => rg y (by simp [hy]), ?_⟩
    unfold stepRow
    refine List.mem_map.mpr ⟨x, ?_, rfl⟩
    rcases absI_or x with e | e
    · exact List.mem_append_right _ (by rw [e]; exact hr)
    · refine List.mem_append_left _ (List.mem_map.mpr ⟨absI x, List.mem_reverse.mpr hr, e.symm⟩)
/-- the standing row is one of them -/
theorem stand_mem {n : Nat} {hs : List Int} (hl : hs.length = n) (nz : ∀ x ∈ hs, x ≠ 0) (nd : (hs.map absI).Nodup) : standR hs ∈ rowsOf (stepRow n) n := by
  have ha : (standR hs).map absI = (hs.map absI).map fun v => (rank (hs.map absI) v : Int) + 1 := by
    unfold standR
    rw [List.map_map, List.map_map]
    apply List.map_congr_left
    intro x hx
    rcases sgn1_cases (nz x hx) with ⟨_, e, _⟩ | ⟨_, e, _⟩ <;> simp only [Function.comp, e] <;> unfold absI <;> split <;> omega
  have hp := ranks_perm nd
  rw [← ha] at hp
  refine rows_all n _ (by rw [stand_len]; exact hl) ?_ fun x hx => ?_
  · rw [hp.nodup_iff]
    unfold rgI
    rw [List.nodup_iff_pairwise_ne, List.pairwise_map]
    exact (List.pairwise_lt_range).imp fun h => by omega
  · have : absI x ∈ rgI 1 ((hs.map absI).length + 1) := hp.mem_iff.mp (List.mem_map.mpr ⟨x, hx, rfl⟩)
    unfold rgI at this
    obtain ⟨j, hj, e⟩ := List.mem_map.mp this
    have := List.mem_range.mp hj
    rw [List.length_map] at this
    omega
theorem stand_sign {n : Nat} {hs : List Int} (hl : hs.length = n) (nz : ∀ x ∈ hs, x ≠ 0) {r : Road} (hr : RoadOk n r) : (rdg (standR hs) r = 0 ↔ rdg hs r = 0) ∧ sgn1 (rdg (standR hs) r) = sgn1 (rdg hs r) := by
  obtain ⟨⟨a0, a1⟩, ⟨b0, b1⟩, hs'⟩ := hr
  have ha : r.1.toNat < hs.length := by omega
  have hb : r.2.1.toNat < hs.length := by omega
  have ga : hs.getD r.1.toNat 0 ∈ hs := by
    rw [List.getD_eq_getElem?_getD, List.getElem?_eq_getElem ha]
    exact List.getElem_mem ha
  have gb : hs.getD r.2.1.toNat 0 ∈ hs := by
    rw [List.getD_eq_getElem?_getD, List.getElem?_eq_getElem hb]
    exact List.getElem_mem hb
  unfold rdg
  rw [stand_get ha, stand_get hb]
  exact reading_sign (nz _ ga) (nz _ gb) (List.mem_map.mpr ⟨_, ga, rfl⟩) (List.mem_map.mpr ⟨_, gb, rfl⟩) hs'
/-- the arrows of heights, if there are any -/
def arrO (rs : List Road) (row : List Int) : Option (List Int) := if 0 ∈ rs.map (rdg row) then none else some ((rs.map (rdg row)).map sgn1)
theorem okS_of {x : Int → Int} : ∀ {rs : List Road}, (∀ r ∈ rs, rdx r x ≠ 0) → okS rs (rs.map fun r => sgn1 (rdx r x)) x
  | [], _ => trivial
  | r :: rs, h => by
    refine ⟨?_, okS_of fun q hq => h q (by simp [hq])⟩
    have := h r (by simp)
    show 0 < sgn1 (rdx r x) * rdx r x
    unfold sgn1
    split <;> omega
theorem okS_sgn {x : Int → Int} : ∀ {rs : List Road} {σ : List Int}, (∀ t ∈ σ, Sg t) → okS rs σ x → (∀ r ∈ rs, rdx r x ≠ 0) ∧ σ = rs.map fun r => sgn1 (rdx r x)
  | [], [], _, _ => ⟨(fun _ h => nomatch h), rfl⟩
  | [], _ :: _, _, h => h.elim
  | _ :: _, [], _, h => h.elim
  | r :: rs, t :: σ, hs, ⟨h1, h2⟩ => by
    obtain ⟨i1, i2⟩ := okS_sgn (fun u hu => hs u (by simp [hu])) h2
    have ht := hs t (by simp)
    have e : rdx r x ≠ 0 ∧ t = sgn1 (rdx r x) := by
      unfold sgn1
      rcases ht with rfl | rfl <;> split <;> constructor <;> omega
    refine ⟨fun q hq => ?_, by rw [List.map_cons, ← e.2, ← i2]⟩
    rcases List.mem_cons.mp hq with rfl | hq
    · exact e.1
    · exact i1 q hq
theorem signs_mem : ∀ {m : Nat} {σ : List Int}, σ ∈ signs m ↔ σ.length = m ∧ ∀ t ∈ σ, Sg t
  | 0, σ => by
    simp only [signs, List.mem_singleton]
    constructor
    · rintro rfl; exact ⟨rfl, fun _ h => nomatch h⟩
    · rintro ⟨h, _⟩; exact List.length_eq_zero_iff.mp h
  | m + 1, σ => by
    simp only [signs, List.mem_flatMap, List.mem_cons, List.not_mem_nil, or_false]
    constructor
    · rintro ⟨q, hq, e⟩
      obtain ⟨h1, h2⟩ := signs_mem.mp hq
      rcases e with rfl | rfl
      · exact ⟨by simp [h1], fun t ht => by
          rcases List.mem_cons.mp ht with rfl | ht
          · exact .inl rfl
          · exact h2 t ht⟩
      · exact ⟨by simp [h1], fun t ht => by
          rcases List.mem_cons.mp ht with rfl | ht
          · exact .inr rfl
          · exact h2 t ht⟩
    · rintro ⟨h1, h2⟩
      cases σ with
      | nil => cases h1
      | cons t q =>
        refine ⟨q, signs_mem.mpr ⟨by simpa using h1, fun u hu => h2 u (by simp [hu])⟩, ?_⟩
        rcases h2 t (by simp) with rfl | rfl
        · exact .inl rfl
        · exact .inr rfl
theorem signs_nodup : ∀ m : Nat, (signs m).Nodup
  | 0 => by simp [signs]
  | m + 1 => by
    simp only [signs]
    have : ∀ l : List (List Int), l.Nodup → (l.flatMap fun σ => [1 :: σ, (-1) :: σ]).Nodup := by
      intro l
      induction l with
      | nil => intro _; simp
      | cons a l ih =>
        intro h
        rw [List.nodup_cons] at h
        rw [List.flatMap_cons, List.nodup_append]
        refine ⟨by simp, ih h.2, fun x hx y hy e => h.1 ?_⟩
        subst e
        obtain ⟨b, hb, hy⟩ := List.mem_flatMap.mp hy
        simp only [List.mem_cons, List.not_mem_nil, or_false] at hx hy
        rcases hx with rfl | rfl <;> rcases hy with e | e <;> simp at e <;> exact e ▸ hb
    exact this _ (signs_nodup m)
open Classical in
theorem cnt_of {α : Type} {P : α → Prop} {l ks : List α} (h1 : l.Nodup) (h2 : ks.Nodup) (h : ∀ a, a ∈ ks ↔ a ∈ l ∧ P a) : ks.length = cnt P l := by
  unfold cnt
  refine List.Perm.length_eq ?_
  rw [List.perm_ext_iff_of_nodup h2 (h1.filter _)]
  intro a
  rw [h a, List.mem_filter, decide_eq_true_eq]
/-- the arrows as they come first -/
def addK (ks : List (List Int)) (a : List Int) : List (List Int) := if a ∈ ks then ks else ks ++ [a]
def addO (rs : List Road) (ks : List (List Int)) (row : List Int) : List (List Int) := match arrO rs row with
  | none => ks
  | some a => addK ks a
def knownL (rs : List Road) (rows : List (List Int)) : List (List Int) := rows.foldl (addO rs) []
theorem addK_nodup {ks : List (List Int)} {a : List Int} (h : ks.Nodup) : (addK ks a).Nodup := by
  unfold addK
  split
  · exact h
  · rename_i q
    rw [List.nodup_append]
    refine ⟨h, by simp, fun x hx y hy e => ?_⟩
    rw [List.mem_singleton] at hy
    exact q (hy ▸ e ▸ hx)
theorem addK_mem {ks : List (List Int)} {a b : List Int} : b ∈ addK ks a ↔ b ∈ ks ∨ b = a := by
  unfold addK
  split
  · rename_i q
    exact ⟨.inl, fun h => h.elim id fun e => e ▸ q⟩
  · rw [List.mem_append, List.mem_singleton]
theorem known_fold {rs : List Road} : ∀ (rows : List (List Int)) (ks : List (List Int)), ks.Nodup → (rows.foldl (addO rs) ks).Nodup ∧ ∀ a, a ∈ rows.foldl (addO rs) ks ↔ a ∈ ks ∨ ∃ row ∈ rows, arrO rs row = some a
  | [], ks, h => ⟨h, fun a => by simp⟩
  | row :: rows, ks, h => by
    rw [List.foldl_cons]
    have h2 : (addO rs ks row).Nodup ∧ ∀ a, a ∈ addO rs ks row ↔ a ∈ ks ∨ arrO rs row = some a := by
      unfold addO
      cases q : arrO rs row with
      | none => exact ⟨h, fun a => by simp⟩
      | some b => exact ⟨addK_nodup h, fun a => by rw [addK_mem]; simp [eq_comm]⟩
    obtain ⟨i1, i2⟩ := known_fold rows _ h2.1
    refine ⟨i1, fun a => ?_⟩
    rw [i2, h2.2]
    simp only [List.mem_cons, exists_eq_or_imp, or_assoc]
theorem known_nodup (rs : List Road) (rows : List (List Int)) : (knownL rs rows).Nodup := (known_fold rows [] List.nodup_nil).1
theorem known_mem {rs : List Road} {rows : List (List Int)} {a : List Int} : a ∈ knownL rs rows ↔ ∃ row ∈ rows, arrO rs row = some a := by
  unfold knownL
  rw [(known_fold rows [] List.nodup_nil).2]
  simp
theorem rdg_rdx (hs : List Int) (r : Road) : rdg hs r = rdx r (sfun hs) := rfl
/-- heights made unlike -/
def wideH (n : Nat) (N : Int) (x : Int → Int) : List Int := sideL n fun c => N * x c + 1 * (c + 1)
theorem wide_ok {n : Nat} {N : Int} (x : Int → Int) (hN : 2 * (n : Int) < N) : (∀ y ∈ wideH n N x, y ≠ 0) ∧ ((wideH n N x).map absI).Nodup := by
  have big : ∀ u : Int, u ≠ 0 → N ≤ N * u ∨ N * u ≤ -N := fun u hu => by
    rcases Int.lt_or_gt_of_ne hu with q | q
    · right
      have : N * u ≤ N * (-1) := Int.mul_le_mul_of_nonneg_left (by omega) (by omega)
      omega
    · left
      have : N * 1 ≤ N * u := Int.mul_le_mul_of_nonneg_left (by omega) (by omega)
      omega
  constructor
  · rintro y hy z
    obtain ⟨c, hc, rfl⟩ := List.mem_map.mp hy
    have hc := List.mem_range.mp hc
    dsimp only at z
    by_cases q : x c = 0
    · rw [q, Int.mul_zero] at z; omega
    · rcases big _ q with b | b <;> omega
  · unfold wideH sideL
    rw [List.map_map, List.nodup_iff_pairwise_ne, List.pairwise_map]
    refine (List.pairwise_lt_range (n := n)).imp_of_mem fun {i j} hi hj hij e => ?_
    have hi := List.mem_range.mp hi
    have hj := List.mem_range.mp hj
    simp only [Function.comp] at e
    have e1 := absI_or (N * x i + 1 * ((i : Int) + 1))
    have e2 := absI_or (N * x j + 1 * ((j : Int) + 1))
    have e3 : N * x i + 1 * ((i : Int) + 1) = N * x j + 1 * ((j : Int) + 1) ∨ N * x i + 1 * ((i : Int) + 1) = -(N * x j + 1 * ((j : Int) + 1)) := by
      rw [e] at e1
      rcases e1 with e1 | e1 <;> rcases e2 with e2 | e2 <;> omega
    rcases e3 with e3 | e3
    · have e4 : N * (x i - x j) = (j : Int) - i := by rw [Int.mul_sub]; omega
      by_cases q : x i - x j = 0
      · rw [q, Int.mul_zero] at e4; omega
      · rcases big _ q with b | b <;> omega
    · have e4 : N * (x i + x j) = -((j : Int) + i + 2) := by rw [Int.mul_add]; omega
      by_cases q : x i + x j = 0
      · rw [q, Int.mul_zero] at e4; omega
      · rcases big _ q with b | b <;> omega
theorem okS_congr {x y : Int → Int} : ∀ {rs : List Road} {σ : List Int}, (∀ r ∈ rs, rdx r x = rdx r y) → okS rs σ x → okS rs σ y
  | [], [], _, _ => trivial
  | [], _ :: _, _, h => h.elim
  | _ :: _, [], _, h => h.elim
  | r :: rs, t :: σ, e, ⟨h1, h2⟩ => ⟨by rw [← e r (by simp)]; exact h1, okS_congr (fun q hq => e q (by simp [hq])) h2⟩
theorem rdx_side {n : Nat} {f : Int → Int} {r : Road} (hr : RoadOk n r) : rdx r (sfun (sideL n f)) = rdx r f := by
  obtain ⟨a, b, _⟩ := hr
  unfold rdx
  rw [sfun_side a.1 a.2, sfun_side b.1 b.2]
/-- every pattern is that of a signed row -/
theorem real_row {n : Nat} {rs : List Road} (g : Good n rs) {σ : List Int} (hs : ∀ t ∈ σ, Sg t) : (∃ row ∈ rowsOf (stepRow n) n, arrO rs row = some σ) ↔ real rs [] σ := by
  have arr_of : ∀ row : List Int, arrO rs row = some σ ↔ okS rs σ (sfun row) := fun row => by
    unfold arrO
    constructor
    · intro h
      split at h
      · cases h
      · rename_i q
        injection h with h
        rw [List.map_map] at h
        rw [← h]
        exact okS_of fun r hr z => q (List.mem_map.mpr ⟨r, hr, by rw [rdg_rdx]; exact z⟩)
    · intro h
      obtain ⟨h1, h2⟩ := okS_sgn hs h
      rw [if_neg, List.map_map, h2]
      · rfl
      · rintro q
        obtain ⟨r, hr, z⟩ := List.mem_map.mp q
        exact h1 r hr (by rw [← rdg_rdx]; exact z)
  constructor
  · rintro ⟨row, hrow, e⟩
    exact ⟨sfun row, fun r hr => (nomatch hr), (arr_of row).mp e⟩
  · rintro ⟨x, _, hx⟩
    obtain ⟨N0, p, k⟩ := okS_big (fun c => c + 1) hx
    let N := max N0 (2 * n + 1)
    have hN := k N (by omega)
    obtain ⟨w1, w2⟩ := wide_ok (n := n) (N := N) x (by omega)
    have wl : (wideH n N x).length = n := by simp [wideH, sideL]
    refine ⟨_, stand_mem wl w1 w2, (arr_of _).mpr ?_⟩
    have h3 : okS rs σ (sfun (wideH n N x)) := okS_congr (fun r hr => (rdx_side (g r hr)).symm) hN
    obtain ⟨h4, h5⟩ := okS_sgn hs h3
    have h6 : σ = rs.map fun r => sgn1 (rdx r (sfun (standR (wideH n N x)))) := by
      rw [h5]
      apply List.map_congr_left
      intro r hr
      exact (stand_sign wl w1 (g r hr)).2.symm
    rw [h6]
    exact okS_of fun r hr z => h4 r hr ((stand_sign wl w1 (g r hr)).1.mp z)
/-- how many arrows of heights there are -/
theorem known_regs {n : Nat} {rs : List Road} (g : Good n rs) : (knownL rs (rowsOf (stepRow n) n)).length = regs rs [] := by
  refine cnt_of (signs_nodup _) (known_nodup _ _) fun a => ?_
  rw [known_mem]
  constructor
  · rintro ⟨row, hrow, e⟩
    have ha : a.length = rs.length ∧ ∀ t ∈ a, Sg t := by
      unfold arrO at e
      split at e
      · cases e
      · injection e with e
        subst e
        refine ⟨by simp, fun t ht => ?_⟩
        obtain ⟨z, _, rfl⟩ := List.mem_map.mp ht
        unfold sgn1
        split
        · exact .inl rfl
        · exact .inr rfl
    exact ⟨signs_mem.mpr ha, (real_row g ha.2).mp ⟨row, hrow, e⟩⟩
  · rintro ⟨h1, h2⟩
    exact (real_row g (signs_mem.mp h1).2).mpr h2
end Pf

set_option maxRecDepth 100000
/-! U10: both rows by the law, the arrows of heights. -/
namespace Pf
open PySem
section
variable {Γ Γ' : Nat → Fn}
/-- the bare row: only lots that are balanced -/
noncomputable def bareL (n : Nat) (rs : List Road) : List Int := (lotsI rs.length).foldl (fun row lot => if balB (pick rs lot) then rowAdd row (bV n (pick rs lot)) (sgnl lot) else row) (List.replicate (n + 1) 0)
def c_bothc : Ex := (.comp [7] (.name 7) (.seq (.var 4)) (.var 7) (.var 7))
def l_bothp (pb : Nat) : Sms := (.cons (.set 4 (.call pb (.cons (.var 0) (.cons (.var 3) .nil)))) (.cons (.set 5 (.op2 .sub (.cst (.int 1)) (.op2 .mul (.cst (.int 2)) (.op2 .sub (.bi .len (.cons (.var 3) .nil)) (.op2 .mul (.op2 .fdiv (.bi .len (.cons (.var 3) .nil)) (.cst (.int 2))) (.cst (.int 2))))))) (.cons (.set 6 (.bi .len (.cons c_bothc .nil))) (.cons (.setI 1 (.var 6) (.op2 .add (.idx (.var 1) (.var 6)) (.var 5))) (.cons (.ite (.op2 .eq (.var 6) (.bi .len (.cons (.var 4) .nil))) (.cons (.setI 2 (.var 6) (.op2 .add (.idx (.var 2) (.var 6)) (.var 5))) .nil) .nil) .nil)))))
def b_both (pl pb : Nat) : Sms := (.cons (.asgN [1, 2] (.cons (.op2 .mul (.lst (.cons (.cst (.int 0)) .nil)) (.op2 .add (.idx (.var 0) (.cst (.int 0))) (.cst (.int 1)))) (.cons (.op2 .mul (.lst (.cons (.cst (.int 0)) .nil)) (.op2 .add (.idx (.var 0) (.cst (.int 0))) (.cst (.int 1)))) .nil))) (.cons (.for [3, 4, 5, 6] (.name 3) (.seq (.call pl (.cons (.bi .len (.cons (.idx (.var 0) (.cst (.int 1))) .nil)) .nil))) (l_bothp pb)) (.cons (.ret (.tup (.cons (.bi .tuple (.cons (.var 1) .nil)) (.cons (.bi .tuple (.cons (.var 2) .nil)) .nil)))) .nil)))
structure HasBoth (Γ : Nat → Fn) (p : Nat) : Prop where
  run : ∀ (n : Nat) (rs : List Road), FrOk n rs → rs.length ≤ 16 → (Γ p).runP [frD n rs] = some (.dat (.tuple [tI (colourL n rs), tI (bareL n rs)]))
theorem half_sgn (m : Nat) : (1 : Int) - 2 * ((m : Int) - (m : Int).fdiv 2 * 2) = 1 - 2 * (m : Int).fmod 2 := by
  have := Int.fmod_add_mul_fdiv (m : Int) 2
  omega
abbrev bothS (n : Nat) (rs : List Road) (a b : List Int) (x3 x4 x5 x6 : Sl) : St := ⟨[.dat (frD n rs), .lst (a.map .int), .lst (b.map .int), x3, x4, x5, x6, .un], none⟩
theorem both_turn {pb : Nat} (hb : HasBits Γ pb) {n : Nat} {rs : List Road} (F : FrOk n rs) {lot : List Int} (L : LotOk rs lot) {a b : List Int} (la : a.length = n + 1) (lb : b.length = n + 1) :
    Nx Γ (l_bothp pb) (bothS n rs a b (.dat (tI lot)) .un .un .un) fun o => ∃ s2, (o = .nx s2 ∨ o = .ct s2) ∧ clear [3, 4, 5, 6] s2 = bothS n rs (rowAdd a (bV n (pick rs lot)) (sgnl lot)) (if balB (pick rs lot) then rowAdd b (bV n (pick rs lot)) (sgnl lot) else b) .un .un .un .un := by
  obtain ⟨ks, s, h, fl, G, e1⟩ := hb.run n rs lot F L
  have hc := G.count (pick_sgs F L) (pick_in F L)
  have hbal := G.bal (pick_sgs F L) (pick_in F L)
  have bl := bV_le n (pick rs lot)
  have fb : fl.length ≤ n := by
    have e := congrArg List.length G.fo
    have l2 := List.length_filter_le (fun (k : Nat) => decide (h k = k)) (List.range n)
    unfold hdsB at e
    rw [List.length_map] at e
    rw [List.length_range] at l2
    omega
  have hn := F.n1
  unfold l_bothp
  refine nx_step (st1 := bothS n rs a b (.dat (tI lot)) (.lst (fl.map .bool)) .un .un) (by simp [e1]) ?_
  have sm : smallI 2 = true := by decide
  have dv : divOk (lot.length : Int) 2 = true := by
    unfold divOk
    simp
  have sm2 : smallI ((lot.length : Int).fdiv 2) = true ∨ smallI 2 = true := .inr sm
  refine nx_step (st1 := bothS n rs a b (.dat (tI lot)) (.lst (fl.map .bool)) (.dat (.int (sgnl lot))) .un) ?_ ?_
  · have := half_sgn lot.length
    simp [sm, dv, sgnl, ← this]
  have hI : evalI Γ (.seq (.var 4)) (bothS n rs a b (.dat (tI lot)) (.lst (fl.map .bool)) (.dat (.int (sgnl lot))) .un) = some (fl.map .bool, bothS n rs a b (.dat (tI lot)) (.dat (.list (fl.map .bool))) (.dat (.int (sgnl lot))) .un) := by simp [evalI]
  have hcm : eval Γ c_bothc (bothS n rs a b (.dat (tI lot)) (.lst (fl.map .bool)) (.dat (.int (sgnl lot))) .un) = _ := comp_encF (fun b => b) .bool hI rfl rfl rfl (fun b _ => by cases b <;> simp [compF, evalC, hide, unAt]) (by omega)
  refine nx_step (st1 := bothS n rs a b (.dat (tI lot)) (.dat (.list (fl.map .bool))) (.dat (.int (sgnl lot))) (.dat (.int (bV n (pick rs lot))))) ?_ ?_
  · simp [hcm, hc]
  have nx : L2.ixN a.length ((bV n (pick rs lot) : Nat) : Int) = some (bV n (pick rs lot)) := by
    have := ixN_in (n := a.length) (a := bV n (pick rs lot)) (by omega) (by omega)
    simpa using this
  have nxb : L2.ixN b.length ((bV n (pick rs lot) : Nat) : Int) = some (bV n (pick rs lot)) := by
    have := ixN_in (n := b.length) (a := bV n (pick rs lot)) (by omega) (by omega)
    simpa using this
  have ata : L2.atI (a.map PyData.int) ((bV n (pick rs lot) : Nat) : Int) = some (.int (a.getD (bV n (pick rs lot)) 0)) := by
    have := atI_map (xs := a) (r := bV n (pick rs lot)) (by omega) (by omega)
    simpa using this
  have atb : L2.atI (b.map PyData.int) ((bV n (pick rs lot) : Nat) : Int) = some (.int (b.getD (bV n (pick rs lot)) 0)) := by
    have := atI_map (xs := b) (r := bV n (pick rs lot)) (by omega) (by omega)
    simpa using this
  refine nx_step (st1 := bothS n rs (rowAdd a (bV n (pick rs lot)) (sgnl lot)) b (.dat (tI lot)) (.dat (.list (fl.map .bool))) (.dat (.int (sgnl lot))) (.dat (.int (bV n (pick rs lot))))) ?_ ?_
  · simp [nx, ata, evIdx, rowAdd, -List.getD_eq_getElem?_getD]
  rw [hc] at hbal
  by_cases q : balB (pick rs lot) = true
  · have q2 := hbal.mpr q
    refine nx_yes (st1 := bothS n rs (rowAdd a (bV n (pick rs lot)) (sgnl lot)) b (.dat (tI lot)) (.dat (.list (fl.map .bool))) (.dat (.int (sgnl lot))) (.dat (.int (bV n (pick rs lot))))) ?_ (nx_step (st1 := bothS n rs (rowAdd a (bV n (pick rs lot)) (sgnl lot)) (rowAdd b (bV n (pick rs lot)) (sgnl lot)) (.dat (tI lot)) (.dat (.list (fl.map .bool))) (.dat (.int (sgnl lot))) (.dat (.int (bV n (pick rs lot))))) ?_ (nx_nil (nx_nil ⟨_, .inl rfl, ?_⟩)))
    · simp [evEq_int, q2]
    · simp [nxb, atb, evIdx, rowAdd, -List.getD_eq_getElem?_getD]
    · rw [if_pos q]; rfl
  · refine nx_skip (st1 := bothS n rs (rowAdd a (bV n (pick rs lot)) (sgnl lot)) b (.dat (tI lot)) (.dat (.list (fl.map .bool))) (.dat (.int (sgnl lot))) (.dat (.int (bV n (pick rs lot))))) ?_ (nx_nil ⟨_, .inl rfl, ?_⟩)
    · have q2 : ¬ bV n (pick rs lot) = fl.length := fun z => q (hbal.mp z)
      have q3 : ¬ ((bV n (pick rs lot) : Nat) : Int) = (fl.length : Int) := fun z => q2 (by omega)
      simp [evEq_int]
      exact q3
    · rw [if_neg q]; rfl
theorem bare_fold_len {n : Nat} {rs : List Road} (ls : List (List Int)) (row : List Int) : (ls.foldl (fun row lot => if balB (pick rs lot) then rowAdd row (bV n (pick rs lot)) (sgnl lot) else row) row).length = row.length := by
  induction ls generalizing row with
  | nil => rfl
  | cons a l ih =>
    rw [List.foldl_cons, ih]
    split
    · rw [rowAdd_len]
    · rfl
theorem bareL_len (n : Nat) (rs : List Road) : (bareL n rs).length = n + 1 := by
  unfold bareL
  rw [bare_fold_len]; simp
theorem hasBoth {p pl pb : Nat} (h : Γ p = .pure (runP Γ' 7 (b_both pl pb))) (hl : HasLots Γ' pl) (hb : HasBits Γ' pb) : HasBoth Γ p := ⟨fun n rs F hm => by
  rw [h]
  have hn := F.n1
  let A : Nat → List Int := fun i => ((lotsI rs.length).take i).foldl (fun row lot => rowAdd row (bV n (pick rs lot)) (sgnl lot)) (List.replicate (n + 1) 0)
  let B : Nat → List Int := fun i => ((lotsI rs.length).take i).foldl (fun row lot => if balB (pick rs lot) then rowAdd row (bV n (pick rs lot)) (sgnl lot) else row) (List.replicate (n + 1) 0)
  refine runP_eq ?_
  show Nx Γ' (b_both pl pb) ⟨[.dat (frD n rs), .un, .un, .un, .un, .un, .un, .un], none⟩ _
  unfold b_both
  have e1 := mul_rep (.int 0) (m := n + 1) (by omega)
  rw [rep_zero] at e1
  have e1' : evMul (.list [.int 0]) (.int ((n : Int) + 1)) = _ := e1
  refine nx_step (st1 := bothS n rs (A 0) (B 0) .un .un .un .un) ?_ ?_
  · simp [e1', A, B]
  have hI : evalI Γ' (.seq (.call pl (.cons (.bi .len (.cons (.idx (.var 0) (.cst (.int 1))) .nil)) .nil))) (bothS n rs (A 0) (B 0) .un .un .un .un) = some ((lotsI rs.length).map tI, bothS n rs (A 0) (B 0) .un .un .un .un) := by
    simp [evalI, hl.run rs.length hm]
  refine nx_loop (I := fun i st => st = bothS n rs (A i) (B i) .un .un .un .un) hI rfl ?_ ?_
  · rintro i d s0 hd rfl
    have hlt : i < (lotsI rs.length).length := by
      have := (List.getElem?_eq_some_iff.mp hd).1
      simpa using this
    rw [List.getElem?_map, List.getElem?_eq_getElem hlt] at hd
    simp only [Option.map_some, Option.some.injEq] at hd
    subst hd
    refine ⟨_, bindT_name _ _ _, ?_⟩
    have L := lotOk_of hm (List.getElem_mem hlt)
    obtain ⟨o, e, s2, h1, h2⟩ := both_turn hb F L (a := A i) (b := B i) (by simp only [A]; rw [fold_len]; simp) (by simp only [B]; rw [bare_fold_len]; simp)
    refine ⟨o, e, s2, h1, ?_⟩
    rw [h2]
    have ta : A (i + 1) = rowAdd (A i) (bV n (pick rs (lotsI rs.length)[i])) (sgnl (lotsI rs.length)[i]) := by
      simp only [A]
      rw [List.take_succ_eq_append_getElem hlt, List.foldl_append]
      rfl
    have tb : B (i + 1) = if balB (pick rs (lotsI rs.length)[i]) then rowAdd (B i) (bV n (pick rs (lotsI rs.length)[i])) (sgnl (lotsI rs.length)[i]) else B i := by
      simp only [B]
      rw [List.take_succ_eq_append_getElem hlt, List.foldl_append]
      rfl
    dsimp only
    rw [ta, tb]
  · rintro st' rfl
    rw [List.length_map]
    have ea : A (lotsI rs.length).length = colourL n rs := by simp only [A, List.take_length]; rfl
    have eb : B (lotsI rs.length).length = bareL n rs := by simp only [B, List.take_length]; rfl
    rw [ea, eb]
    refine nx_rt (r := .dat (.tuple [tI (colourL n rs), tI (bareL n rs)])) (st1 := bothS n rs (colourL n rs) (bareL n rs) .un .un .un .un) ?_ ⟨_, rfl⟩
    simp [tI]⟩
/-! ### dicts whose keys are rows of ints -/
def kvP (kvs : List (List Int × D)) : List (D × D) := kvs.map fun p => (tI p.1, p.2)
theorem eqv_tI (a b : List Int) : PyData.eqv (tI a) (tI b) = decide (a = b) := by
  show PyData.eqvAll _ _ = _
  exact eqv_intlists a b
theorem kvP_any (kvs : List (List Int × D)) (a : List Int) : ((kvP kvs).any fun p => PyData.eqv p.1 (tI a)) = decide (a ∈ kvs.map (·.1)) := by
  rw [Bool.eq_iff_iff, List.any_eq_true, decide_eq_true_eq]
  constructor
  · rintro ⟨p, hp, e⟩
    obtain ⟨c, hc, rfl⟩ := List.mem_map.mp hp
    dsimp only at e
    rw [eqv_tI, decide_eq_true_eq] at e
    exact List.mem_map.mpr ⟨c, hc, e⟩
  · intro h
    obtain ⟨c, hc, e⟩ := List.mem_map.mp h
    exact ⟨_, List.mem_map.mpr ⟨c, hc, rfl⟩, by dsimp only; rw [eqv_tI, decide_eq_true_eq]; exact e⟩
theorem leaf_tI (a : List Int) : keyOk true (tI a) = true := by
  show (a.map PyData.int).all leafK = true
  rw [List.all_eq_true]
  intro d hd
  obtain ⟨x, _, rfl⟩ := List.mem_map.mp hd
  rfl
theorem kvP_in (kvs : List (List Int × D)) (a : List Int) : evIn (tI a) (dctD true (kvP kvs)) = some (decide (a ∈ kvs.map (·.1))) := by
  show (if keyOk true (tI a) = true then some ((kvP kvs).any fun p => PyData.eqv p.1 (tI a)) else none) = _
  rw [if_pos (leaf_tI a), kvP_any]
theorem kvP_new {kvs : List (List Int × D)} {a : List Int} {d : D} (h : a ∉ kvs.map (·.1)) : dput (kvP kvs) (tI a) d = kvP (kvs ++ [(a, d)]) := by
  unfold dput
  rw [kvP_any, decide_eq_false h]
  simp [kvP]
theorem kvP_old {kvs : List (List Int × D)} {a : List Int} {d : D} (h : a ∈ kvs.map (·.1)) (hd : ∀ p ∈ kvs, p.2 = d) : dput (kvP kvs) (tI a) d = kvP kvs := by
  unfold dput
  rw [kvP_any, decide_eq_true h]
  simp only [if_true]
  conv => rhs; rw [← List.map_id (kvP kvs)]
  apply List.map_congr_left
  intro p hp
  obtain ⟨c, hc, rfl⟩ := List.mem_map.mp hp
  dsimp only [id]
  rw [hd c hc]
  split <;> rfl
theorem kvP_keys (kvs : List (List Int × D)) : (kvP kvs).map (·.1) = (kvs.map (·.1)).map tI := by
  simp [kvP, Function.comp_def]
theorem sortOk_rows {m : Nat} {rows : List (List Int)} (h : ∀ r ∈ rows, r.length = m) (nd : rows.Nodup) : sortOk (rows.map tI) = true := by
  unfold sortOk
  simp only [Bool.and_eq_true, Bool.or_eq_true, List.all_eq_true, List.mem_map]
  refine ⟨⟨?_, ?_⟩, ?_⟩
  · rintro d ⟨r, _, rfl⟩
    simp [tI, okD]
  · rintro a ⟨r, _, rfl⟩ b ⟨q, _, rfl⟩
    simp only [tI, W.alike]
    exact alike_ints r q
  · cases m with
    | zero =>
      cases rows with
      | nil => exact .inl (.inl (by rintro d ⟨_, h, _⟩; exact nomatch h))
      | cons a l =>
        cases l with
        | nil =>
          have := h a (by simp)
          rw [List.length_eq_zero_iff] at this
          subst this
          exact .inr rfl
        | cons b l =>
          have h1 := h a (by simp)
          have h2 := h b (by simp)
          rw [List.length_eq_zero_iff] at h1 h2
          subst h1 h2
          simp at nd
    | succ m =>
      refine .inl (.inl ?_)
      rintro d ⟨r, hr, rfl⟩
      have := h r hr
      cases r with
      | nil => cases this
      | cons x xs => rfl
end
end Pf

set_option maxRecDepth 100000
/-! U11: the arrows of heights, by the program and by the law. -/
namespace Pf
open PySem
section
variable {Γ Γ' : Nat → Fn}
theorem rows_b {n : Nat} (h1 : 1 ≤ n) (h2 : n ≤ 4) : rowsOkB n = true := by
  rcases (show n = 1 ∨ n = 2 ∨ n = 3 ∨ n = 4 by omega) with rfl | rfl | rfl | rfl
  · exact rows_ok1
  · exact rows_ok2
  · exact rows_ok3
  · exact rows_ok4
/-- the signed rows of n -/
def sRows (n : Nat) : List (List Int) := rowsOf (stepRow n) n
theorem sRows_ok {n : Nat} (h1 : 1 ≤ n) (h2 : n ≤ 4) : (sRows n).length ≤ 1000 ∧ ∀ r ∈ sRows n, r.length = n ∧ ∀ x ∈ r, x.natAbs < 100 := by
  have hb := rows_b h1 h2
  unfold rowsOkB at hb
  simp only [Bool.and_eq_true, List.all_eq_true, decide_eq_true_eq, List.mem_range] at hb
  obtain ⟨⟨⟨⟨c1, c2⟩, c3⟩, c4⟩, c5⟩ := hb
  exact ⟨c4, fun r hr => ⟨rows_len (step_len n) n r hr, (c3 r hr).2⟩⟩
structure HasSRows (Γ : Nat → Fn) (p : Nat) : Prop where
  run : ∀ n : Nat, 1 ≤ n → n ≤ 4 → ∃ r, (r = .lst ((sRows n).map tI) ∨ r = .dat (.list ((sRows n).map tI))) ∧ (Γ p).runP [.int n] = some r
theorem hasSRows {p : Nat} (h : Γ p = .pure (runP Γ' 9 b_srows)) : HasSRows Γ p := ⟨fun n h1 h2 => by
  have hb := rows_b h1 h2
  unfold rowsOkB at hb
  simp only [Bool.and_eq_true, List.all_eq_true, decide_eq_true_eq, List.mem_range] at hb
  rw [h]
  exact srows_run (by omega) fun j hj => by
    have := hb.2 j (by omega)
    exact ⟨by omega, fun r hr => by have := this.1.1.2 r hr; omega⟩⟩
theorem hasSRows2 {p : Nat} (h : Γ p = .pure (runP Γ' 5 b_rows2)) : HasSRows Γ p := ⟨fun n h1 h2 => by
  have hb := rows_b h1 h2
  unfold rowsOkB at hb
  simp only [Bool.and_eq_true, List.all_eq_true, decide_eq_true_eq, List.mem_range] at hb
  obtain ⟨⟨⟨⟨c1, c2⟩, c3⟩, c4⟩, c5⟩ := hb
  refine ⟨_, .inl rfl, ?_⟩
  unfold sRows
  rw [h, c1]
  refine rows2_run (by omega) (fun j hj => ?_) (sorted_rows (fun r hr => ?_) c2)
  · have := c5 j (by omega)
    exact ⟨by omega, fun r hr => by have := this.2 r hr; omega⟩
  · rw [← c1] at hr
    have := (c3 r hr).1
    intro e
    rw [e] at this
    simp at this⟩
theorem arrD_O (rs : List Road) (row : List Int) : arrD (rs.map (rdg row)) = match arrO rs row with
    | none => .none
    | some a => tI a := by
  unfold arrD arrO
  split <;> rfl
theorem hasArr1 {p q : Nat} (h : Γ p = .pure (runP Γ' 2 (b_arrows q))) (hq : HasRead Γ' q) : HasArr Γ p := ⟨fun n rs hs h1 h2 => by rw [h]; exact arrows_run hq h1 h2⟩
theorem hasArr2 {p q : Nat} (h : Γ p = .pure (runP Γ' 2 (b_arrows2 q))) (hq : HasRead Γ' q) : HasArr Γ p := ⟨fun n rs hs h1 h2 => by rw [h]; exact arrows2_run hq h1 h2⟩
/-- the known arrows of a frame -/
def knL (n : Nat) (rs : List Road) : List (List Int) := knownL rs (sRows n)
theorem kn_len {n : Nat} {rs : List Road} : ∀ a ∈ knL n rs, a.length = rs.length ∧ ∀ t ∈ a, Sg t := by
  intro a ha
  obtain ⟨row, hrow, e⟩ := known_mem.mp ha
  unfold arrO at e
  split at e
  · cases e
  · injection e with e
    subst e
    refine ⟨by simp, fun t ht => ?_⟩
    obtain ⟨z, _, rfl⟩ := List.mem_map.mp ht
    unfold sgn1
    split
    · exact .inl rfl
    · exact .inr rfl
theorem kn_sort {n : Nat} {rs : List Road} : sortOk ((knL n rs).map tI) = true := sortOk_rows (fun r hr => (kn_len r hr).1) (known_nodup _ _)
theorem kn_le {rs : List Road} : ∀ (rows : List (List Int)) (ks : List (List Int)), (rows.foldl (addO rs) ks).length ≤ ks.length + rows.length
  | [], ks => by simp
  | row :: rows, ks => by
    rw [List.foldl_cons]
    have h1 := kn_le (rs := rs) rows (addO rs ks row)
    have h2 : (addO rs ks row).length ≤ ks.length + 1 := by
      unfold addO
      split
      · omega
      · unfold addK
        split
        · omega
        · simp
    rw [List.length_cons]
    omega
/-! the program's -/
def l_ha (pa : Nat) : Sms := (.cons (.set 3 (.call pa (.cons (.var 0) (.cons (.var 2) .nil)))) (.cons (.ite (.op2 .isnt (.var 3) (.cst .none)) (.cons (.setI 1 (.var 3) (.cst (.bool true))) .nil) .nil) .nil))
def b_ha (pa ps : Nat) : Sms := (.cons (.set 1 (.dnew true)) (.cons (.for [2, 3] (.name 2) (.seq (.call ps (.cons (.idx (.var 0) (.cst (.int 0))) .nil))) (l_ha pa)) (.cons (.ret (.bi .tuple (.cons (.bi .sorted (.cons (.var 1) .nil)) .nil))) .nil)))
/-- the arrows of heights, ascending -/
def haD (n : Nat) (rs : List Road) : List D := sortD ((knL n rs).map tI)
structure HasHA (Γ : Nat → Fn) (p : Nat) : Prop where
  run : ∀ (n : Nat) (rs : List Road), FrOk n rs → n ≤ 4 → (Γ p).runP [frD n rs] = some (.dat (.tuple (haD n rs)))
theorem isnt_tI (a : List Int) : evIs (tI a) .none = some false := rfl
theorem isnt_none : evIs PyData.none .none = some true := rfl
theorem hasHA {p pa ps : Nat} (h : Γ p = .pure (runP Γ' 3 (b_ha pa ps))) (ha : HasArr Γ' pa) (hs : HasSRows Γ' ps) : HasHA Γ p := ⟨fun n rs F h4 => by
  rw [h]
  have hn := F.n0
  obtain ⟨rl, ro⟩ := sRows_ok F.n0 h4
  let K : Nat → List (List Int) := fun i => ((sRows n).take i).foldl (addO rs) []
  let S : List (List Int) → St := fun ks => ⟨[.dat (frD n rs), .dct true (kvP (ks.map fun a => (a, .bool true))), .un, .un], none⟩
  refine runP_eq ?_
  show Nx Γ' (b_ha pa ps) ⟨[.dat (frD n rs), .un, .un, .un], none⟩ _
  unfold b_ha
  refine nx_step (st1 := S []) (by simp [S, kvP, eval]) ?_
  obtain ⟨r, hr, e1⟩ := hs.run n F.n0 h4
  have hI : evalI Γ' (.seq (.call ps (.cons (.idx (.var 0) (.cst (.int 0))) .nil))) (S []) = some ((sRows n).map tI, S []) := by
    rcases hr with rfl | rfl <;> simp [evalI, S, e1]
  have bound : ∀ i, (K i).length ≤ 1000 := fun i => by
    have := kn_le (rs := rs) ((sRows n).take i) []
    have l2 := List.length_take_le i (sRows n)
    have l3 : ((sRows n).take i).length ≤ (sRows n).length := by rw [List.length_take]; omega
    simp only [K]
    simp at this
    omega
  refine nx_loop (I := fun i st => st = S (K i)) hI rfl ?_ ?_
  · rintro i d s0 hd rfl
    have hlt : i < (sRows n).length := by
      have := (List.getElem?_eq_some_iff.mp hd).1
      simpa using this
    rw [List.getElem?_map, List.getElem?_eq_getElem hlt] at hd
    simp only [Option.map_some, Option.some.injEq] at hd
    subst hd
    refine ⟨_, bindT_name _ _ _, ?_⟩
    have hm := List.getElem_mem hlt
    have tk : K (i + 1) = addO rs (K i) (sRows n)[i] := by
      simp only [K]
      rw [List.take_succ_eq_append_getElem hlt, List.foldl_append]
      rfl
    generalize (sRows n)[i] = row at hm tk
    have e2 := ha.run n rs row (fun r hr => by rw [(ro row hm).1]; exact F.g r hr) F.m1
    rw [arrD_O] at e2
    have bi := bound i
    dsimp only
    rw [tk]
    generalize K i = ks at bi
    unfold l_ha
    unfold addO
    cases q : arrO rs row with
    | none =>
      rw [q] at e2
      refine nx_step (st1 := ⟨[.dat (frD n rs), .dct true (kvP (ks.map fun a => (a, .bool true))), .dat (tI row), .dat .none], none⟩) (by simp [S, e2]) (nx_skip (st1 := ⟨[.dat (frD n rs), .dct true (kvP (ks.map fun a => (a, .bool true))), .dat (tI row), .dat .none], none⟩) (by simp [isnt_none]) (nx_nil ⟨_, .inl rfl, rfl⟩))
    | some a =>
      rw [q] at e2
      refine nx_step (st1 := ⟨[.dat (frD n rs), .dct true (kvP (ks.map fun a => (a, .bool true))), .dat (tI row), .dat (tI a)], none⟩) (by simp [S, e2]) (nx_yes (st1 := ⟨[.dat (frD n rs), .dct true (kvP (ks.map fun a => (a, .bool true))), .dat (tI row), .dat (tI a)], none⟩) (by simp [isnt_tI]) (nx_step (st1 := ⟨[.dat (frD n rs), .dct true (kvP ((addK ks a).map fun a => (a, .bool true))), .dat (tI row), .dat (tI a)], none⟩) ?_ (nx_nil (nx_nil ⟨_, .inl rfl, rfl⟩))))
      have kl : (kvP (ks.map fun a => (a, PyData.bool true))).length < sizeLine := by rw [sizeLine_eq]; simp [kvP]; omega
      have pt : dput (kvP (ks.map fun a => (a, PyData.bool true))) (tI a) (.bool true) = kvP ((addK ks a).map fun a => (a, PyData.bool true)) := by
        have hk : (ks.map fun a => (a, PyData.bool true)).map (·.1) = ks := by simp [Function.comp_def]
        unfold addK
        split
        · rename_i q
          exact kvP_old (by rw [hk]; exact q) (by simp)
        · rename_i q
          rw [kvP_new (by rw [hk]; exact q)]
          simp
      have kt := leaf_tI a
      simp [kt, kl, pt]
  · rintro st' rfl
    rw [List.length_map]
    have ek : K (sRows n).length = knL n rs := by simp only [K, List.take_length]; rfl
    rw [ek]
    refine nx_rt (r := .dat (.tuple (haD n rs))) (st1 := S (knL n rs)) ?_ ⟨_, rfl⟩
    have hk : ((knL n rs).map fun a => (a, PyData.bool true)).map (·.1) = knL n rs := by simp [Function.comp_def]
    have so : bSorted (dctD true (kvP ((knL n rs).map fun a => (a, PyData.bool true)))) = some (.lst (haD n rs)) := by
      unfold bSorted
      simp only [sortItems_dct, kvP_keys, hk, Option.bind_some, kn_sort, if_true]
      rfl
    simp [S, so]⟩
/-! the law's -/
def l_lha (pa : Nat) : Sms := (.cons (.set 3 (.call pa (.cons (.var 0) (.cons (.var 2) .nil)))) (.cons (.ite (.and2 (.op2 .isnt (.var 3) (.cst .none)) (.op2 .notin (.var 3) (.var 1))) (.cons (.setI 1 (.var 3) (.var 2)) .nil) .nil) .nil))
def b_lha (pa ps : Nat) : Sms := (.cons (.set 1 (.dnew true)) (.cons (.for [2, 3] (.name 2) (.seq (.call ps (.cons (.idx (.var 0) (.cst (.int 0))) .nil))) (l_lha pa)) (.cons (.ret (.var 1)) .nil)))
/-- the arrows, each with its first row -/
def addR (rs : List Road) (kvs : List (List Int × List Int)) (row : List Int) : List (List Int × List Int) := match arrO rs row with
  | none => kvs
  | some a => if a ∈ kvs.map (·.1) then kvs else kvs ++ [(a, row)]
def firstL (n : Nat) (rs : List Road) : List (List Int × List Int) := (sRows n).foldl (addR rs) []
theorem addR_keys (rs : List Road) (kvs : List (List Int × List Int)) (row : List Int) : (addR rs kvs row).map (·.1) = addO rs (kvs.map (·.1)) row := by
  unfold addR addO
  cases arrO rs row with
  | none => rfl
  | some a =>
    unfold addK
    dsimp only
    split <;> simp
theorem first_fold (rs : List Road) : ∀ (rows : List (List Int)) (kvs : List (List Int × List Int)), (rows.foldl (addR rs) kvs).map (·.1) = rows.foldl (addO rs) (kvs.map (·.1))
  | [], _ => rfl
  | row :: rows, kvs => by rw [List.foldl_cons, List.foldl_cons, first_fold rs rows, addR_keys]
theorem first_keys (n : Nat) (rs : List Road) : (firstL n rs).map (·.1) = knL n rs := first_fold rs _ []
def frst (kvs : List (List Int × List Int)) : List (List Int × D) := kvs.map fun p => (p.1, tI p.2)
theorem frst_keys (kvs : List (List Int × List Int)) : (frst kvs).map (·.1) = kvs.map (·.1) := by simp [frst, Function.comp_def]
structure HasLHA (Γ : Nat → Fn) (p : Nat) : Prop where
  run : ∀ (n : Nat) (rs : List Road), FrOk n rs → n ≤ 4 → (Γ p).runP [frD n rs] = some (.dct true (kvP (frst (firstL n rs))))
theorem hasLHA {p pa ps : Nat} (h : Γ p = .pure (runP Γ' 3 (b_lha pa ps))) (ha : HasArr Γ' pa) (hs : HasSRows Γ' ps) : HasLHA Γ p := ⟨fun n rs F h4 => by
  rw [h]
  have hn := F.n0
  obtain ⟨rl, ro⟩ := sRows_ok F.n0 h4
  let K : Nat → List (List Int × List Int) := fun i => ((sRows n).take i).foldl (addR rs) []
  let S : List (List Int × List Int) → St := fun ks => ⟨[.dat (frD n rs), .dct true (kvP (frst ks)), .un, .un], none⟩
  refine runP_eq ?_
  show Nx Γ' (b_lha pa ps) ⟨[.dat (frD n rs), .un, .un, .un], none⟩ _
  unfold b_lha
  refine nx_step (st1 := S []) (by simp [S, kvP, frst, eval]) ?_
  obtain ⟨r, hr, e1⟩ := hs.run n F.n0 h4
  have hI : evalI Γ' (.seq (.call ps (.cons (.idx (.var 0) (.cst (.int 0))) .nil))) (S []) = some ((sRows n).map tI, S []) := by
    rcases hr with rfl | rfl <;> simp [evalI, S, e1]
  have bound : ∀ i, (K i).length ≤ 1000 := fun i => by
    have := kn_le (rs := rs) ((sRows n).take i) []
    have l3 : ((sRows n).take i).length ≤ (sRows n).length := by rw [List.length_take]; omega
    have e := congrArg List.length (first_fold rs ((sRows n).take i) [])
    rw [List.length_map] at e
    simp only [K]
    simp at this e
    omega
  refine nx_loop (I := fun i st => st = S (K i)) hI rfl ?_ ?_
  · rintro i d s0 hd rfl
    have hlt : i < (sRows n).length := by
      have := (List.getElem?_eq_some_iff.mp hd).1
      simpa using this
    rw [List.getElem?_map, List.getElem?_eq_getElem hlt] at hd
    simp only [Option.map_some, Option.some.injEq] at hd
    subst hd
    refine ⟨_, bindT_name _ _ _, ?_⟩
    have hm := List.getElem_mem hlt
    have tk : K (i + 1) = addR rs (K i) (sRows n)[i] := by
      simp only [K]
      rw [List.take_succ_eq_append_getElem hlt, List.foldl_append]
      rfl
    generalize (sRows n)[i] = row at hm tk
    have e2 := ha.run n rs row (fun r hr => by rw [(ro row hm).1]; exact F.g r hr) F.m1
    rw [arrD_O] at e2
    have bi := bound i
    dsimp only
    rw [tk]
    generalize K i = ks at bi
    unfold l_lha
    unfold addR
    cases q : arrO rs row with
    | none =>
      rw [q] at e2
      refine nx_step (st1 := ⟨[.dat (frD n rs), .dct true (kvP (frst ks)), .dat (tI row), .dat .none], none⟩) (by simp [S, e2]) (nx_skip (st1 := ⟨[.dat (frD n rs), .dct true (kvP (frst ks)), .dat (tI row), .dat .none], none⟩) (by simp [isnt_none]) (nx_nil ⟨_, .inl rfl, rfl⟩))
    | some a =>
      rw [q] at e2
      have kin := kvP_in (frst ks) a
      rw [frst_keys] at kin
      refine nx_step (st1 := ⟨[.dat (frD n rs), .dct true (kvP (frst ks)), .dat (tI row), .dat (tI a)], none⟩) (by simp [S, e2]) ?_
      dsimp only
      by_cases w : a ∈ ks.map (·.1)
      · rw [if_pos w]
        rw [decide_eq_true w] at kin
        exact nx_skip (st1 := ⟨[.dat (frD n rs), .dct true (kvP (frst ks)), .dat (tI row), .dat (tI a)], none⟩) (by simp [isnt_tI, kin]) (nx_nil ⟨_, .inl rfl, rfl⟩)
      · rw [if_neg w]
        rw [decide_eq_false w] at kin
        refine nx_yes (st1 := ⟨[.dat (frD n rs), .dct true (kvP (frst ks)), .dat (tI row), .dat (tI a)], none⟩) (by simp [isnt_tI, kin]) (nx_step (st1 := ⟨[.dat (frD n rs), .dct true (kvP (frst (ks ++ [(a, row)]))), .dat (tI row), .dat (tI a)], none⟩) ?_ (nx_nil (nx_nil ⟨_, .inl rfl, rfl⟩)))
        have kl : (kvP (frst ks)).length < sizeLine := by rw [sizeLine_eq]; simp [kvP, frst]; omega
        have pt : dput (kvP (frst ks)) (tI a) (tI row) = kvP (frst (ks ++ [(a, row)])) := by
          rw [kvP_new (by rw [frst_keys]; exact w)]
          simp [frst]
        have kt := leaf_tI a
        simp [kt, kl, pt]
  · rintro st' rfl
    rw [List.length_map]
    have ek : K (sRows n).length = firstL n rs := by simp only [K, List.take_length]; rfl
    rw [ek]
    refine nx_rt (r := .dct true (kvP (frst (firstL n rs)))) (st1 := unAt (S (firstL n rs)) 1) ?_ ⟨_, rfl⟩
    simp [S]⟩
end
end Pf

set_option maxRecDepth 100000
/-! U12: frames switched and joined. -/
namespace Pf
open PySem
section
variable {Γ Γ' : Nat → Fn}
theorem cut_pre {ys : List D} {n : Nat} : cutD ys none (some (n : Int)) = ys.take n := by
  simp only [cutD, HT.sIx]
  have : ¬ (n : Int) < 0 := by omega
  simp [this]
theorem cut_post {ys : List D} {n : Nat} : cutD ys (some (n : Int)) none = ys.drop n := by
  simp only [cutD, HT.sIx]
  have : ¬ (n : Int) < 0 := by omega
  simp only [this, if_false, Int.toNat_natCast]
  by_cases h : n ≤ ys.length
  · rw [Nat.min_eq_left h, List.take_of_length_le (by rw [List.length_drop]; omega)]
  · rw [Nat.min_eq_right (by omega), List.drop_length, List.drop_eq_nil_of_le (by omega)]
    simp
theorem cut_init {ys : List D} : cutD ys none (some (-1)) = ys.dropLast := by
  simp only [cutD, HT.sIx]
  have : (-1 : Int) < 0 := by omega
  simp only [this, if_true, List.drop_zero]
  rw [List.dropLast_eq_take]
  congr 1
  omega
theorem slcT (ys : List D) (lo hi : Option Int) : evSlc .cut (.tuple ys) lo hi = some (.dat (.tuple (cutD ys lo hi))) := rfl
theorem slcL (ys : List D) (lo hi : Option Int) : evSlc .cut (.list ys) lo hi = some (.lst (cutD ys lo hi)) := rfl
/-- a road switched by sides -/
def swR (t : Int → Int) (r : Road) : Road := (r.1, r.2.1, t r.1 * r.2.2 * t r.2.1)
def c_sw : Ex := (.comp [2, 3, 4] (.tup [(.name 2), (.name 3), (.name 4)]) (.seq (.idx (.var 0) (.cst (.int 1)))) .nop (.tup (.cons (.var 2) (.cons (.var 3) (.cons (.op2 .mul (.op2 .mul (.idx (.var 1) (.var 2)) (.var 4)) (.idx (.var 1) (.var 3))) .nil)))))
def b_sw : Sms := (.cons (.ret (.tup (.cons (.idx (.var 0) (.cst (.int 0))) (.cons (.bi .tuple (.cons c_sw .nil)) .nil)))) .nil)
structure HasSw (Γ : Nat → Fn) (p : Nat) : Prop where
  run : ∀ (n : Nat) (rs : List Road) (x : D) (ss : List Int), FrOk n rs → items x = some (ss.map .int) → ss.length = n → AllSg ss → (Γ p).runP [frD n rs, x] = some (.dat (frD n (rs.map (swR (sfun ss)))))
theorem at_items {x : D} {ss : List Int} (h : items x = some (ss.map .int)) {c : Int} (h0 : 0 ≤ c) (h1 : c < ss.length) : evIdx x (.int c) = some (.int (sfun ss c)) := evIdx_items h (atI_map h0 h1)
theorem hasSw {p : Nat} (h : Γ p = .pure (runP Γ' 3 b_sw)) : HasSw Γ p := ⟨fun n rs x ss F hx hl sg => by
  rw [h]
  let S0 : St := ⟨[.dat (frD n rs), .dat x, .un, .un, .un], none⟩
  refine runP_rt (st := S0) ?_
  show execs Γ' b_sw ⟨[.dat (frD n rs), argSl x, .un, .un, .un], none⟩ = _
  rw [argSl_items hx]
  unfold b_sw
  refine execs_rt ?_
  have hI : evalI Γ' (.seq (.idx (.var 0) (.cst (.int 1)))) S0 = some (rs.map rdD, S0) := by simp [evalI, S0]
  have hm := F.m1
  have hc : eval Γ' c_sw S0 = _ := comp_enc (fun r => rdD (swR (sfun ss) r)) hI rfl rfl rfl (fun r hr => by
    obtain ⟨a, b, s⟩ := F.g r hr
    have a1 := at_items hx a.1 (by omega)
    have a2 := at_items hx b.1 (by omega)
    have s1 := sign_small (sg.at a.1 (by omega))
    have s2 := sign_small (Sg.mul (sg.at a.1 (by omega)) s)
    have s3 := sign_small s
    simp [compF, evalC, rdD, a1, a2, s1, s2, s3, hide, unAt, S0, swR]) (by omega)
  simp [hc, S0]
  simp [frD, Function.comp_def]⟩
/-- the crossings' names after a road is shut -/
def nmJ (lo hi c : Int) : Int := if c = hi then lo else c - (if hi < c then 1 else 0)
def jnR (lo hi : Int) (r : Road) : Road := (nmJ lo hi r.1, nmJ lo hi r.2.1, r.2.2)
def c_jn1 : Ex := (.comp [10] (.name 10) (.rng1 (.idx (.var 0) (.cst (.int 0)))) .nop (.ite (.op2 .eq (.var 10) (.var 3)) (.var 4) (.cst (.int 1))))
def c_jn2 : Ex := (.comp [10] (.name 10) (.rng1 (.idx (.var 0) (.cst (.int 0)))) .nop (.ite (.op2 .eq (.var 10) (.var 7)) (.var 6) (.op2 .sub (.var 10) (.bi .int (.cons (.op2 .gt (.var 10) (.var 7)) .nil)))))
def c_jn3 : Ex := (.comp [11, 12, 13] (.tup [(.name 11), (.name 12), (.name 13)]) (.seq (.var 9)) .nop (.tup (.cons (.idx (.var 8) (.var 11)) (.cons (.idx (.var 8) (.var 12)) (.cons (.var 13) .nil)))))
def b_jn (p : Nat) : Sms := (.cons (.asgT (.tup [(.name 2), (.name 3), (.name 4)]) (.idx (.idx (.var 0) (.cst (.int 1))) (.var 1))) (.cons (.set 5 (.call p (.cons (.var 0) (.cons c_jn1 .nil)))) (.cons (.asgT (.tup [(.name 6), (.name 7)]) (.tup (.cons (.bi .min2 (.cons (.var 2) (.cons (.var 3) .nil))) (.cons (.bi .max2 (.cons (.var 2) (.cons (.var 3) .nil))) .nil)))) (.cons (.set 8 c_jn2) (.cons (.set 9 (.op2 .add (.slc .cut (.idx (.var 5) (.cst (.int 1))) .nop (.var 1)) (.slc .cut (.idx (.var 5) (.cst (.int 1))) (.op2 .add (.var 1) (.cst (.int 1))) .nop))) (.cons (.ret (.tup (.cons (.op2 .sub (.idx (.var 0) (.cst (.int 0))) (.cst (.int 1))) (.cons (.bi .tuple (.cons c_jn3 .nil)) .nil)))) .nil))))))
/-- the sides that make the road's sign one -/
def jnT (e : Road) (c : Int) : Int := if c = e.2.1 then e.2.2 else 1
/-- the frame with a road shut -/
def joinF (rs : List Road) (i : Nat) : List Road := let e := rs.getD i (0, 0, 1); ((rs.take i ++ rs.drop (i + 1)).map (swR (jnT e))).map (jnR (min e.1 e.2.1) (max e.1 e.2.1))
structure HasJn (Γ : Nat → Fn) (p : Nat) : Prop where
  run : ∀ (n : Nat) (rs : List Road) (i : Nat), FrOk n rs → i < rs.length → (Γ p).runP [frD n rs, .int i] = some (.dat (frD ((n : Int) - 1) (joinF rs i)))
theorem swR_congr {n : Nat} {t t' : Int → Int} {r : Road} (hr : RoadOk n r) (h : ∀ c : Int, 0 ≤ c → c < n → t c = t' c) : swR t r = swR t' r := by
  obtain ⟨a, b, _⟩ := hr
  unfold swR
  rw [h _ a.1 a.2, h _ b.1 b.2]
theorem hasJn {p q : Nat} (h : Γ p = .pure (runP Γ' 12 (b_jn q))) (hq : HasSw Γ' q) : HasJn Γ p := ⟨fun n rs i F hi => by
  rw [h]
  have hn := F.n1
  have hm := F.m1
  have e1 : evIdx (.tuple (rs.map rdD)) (.int (i : Int)) = some (rdD (rs.getD i (0, 0, 1))) := by
    have := road_at (rs := rs) (i := (i : Int)) (by omega) (by omega)
    simpa using this
  obtain ⟨ea, eb, es⟩ : RoadOk n (rs.getD i (0, 0, 1)) := by
    have := F.g.at (i := (i : Int)) (by omega) (by omega)
    simpa using this
  unfold joinF
  generalize rs.getD i (0, 0, 1) = e at e1 ea eb es
  obtain ⟨a, b, s⟩ := e
  dsimp only at ea eb es
  let lo := min a b
  let hi := max a b
  let ss : List Int := (rngZ n).map fun c => if c = b then s else 1
  have ssl : ss.length = n := by simp [ss, rngZ]
  have ssg : AllSg ss := fun x hx => by
    obtain ⟨c, _, rfl⟩ := List.mem_map.mp hx
    split
    · exact es
    · exact .inl rfl
  have sst : ∀ c : Int, 0 ≤ c → c < n → sfun ss c = jnT (a, b, s) c := fun c c0 c1 => by
    have := sfun_side (n := n) (s := fun c => if c = b then s else 1) c0 c1
    have e : ss = sideL n fun c => if c = b then s else 1 := by simp [ss, sideL, rngZ]
    rw [e, this]; rfl
  let rs2 := rs.map (swR (jnT (a, b, s)))
  have e2 : rs.map (swR (sfun ss)) = rs2 := List.map_congr_left fun r hr => swR_congr (F.g r hr) sst
  have r2 := hq.run n rs (.list (ss.map .int)) ss F rfl ssl ssg
  rw [e2] at r2
  let S2 : Sl → Sl → Sl → Sl → Sl → Sl → St := fun x5 x6 x7 x8 x9 x10 => ⟨[.dat (frD n rs), .dat (.int i), .dat (.int a), .dat (.int b), .dat (.int s), x5, x6, x7, x8, x9, x10, .un, .un, .un], none⟩
  refine runP_eq ?_
  show Nx Γ' (b_jn q) ⟨[.dat (frD n rs), .dat (.int i), .un, .un, .un, .un, .un, .un, .un, .un, .un, .un, .un, .un], none⟩ _
  unfold b_jn
  refine nx_step (st1 := S2 .un .un .un .un .un .un) (by simp [e1, rdD, S2]) ?_
  have hI : ∀ x5 x6 x7 x8 x9, evalI Γ' (.rng1 (.idx (.var 0) (.cst (.int 0)))) (S2 x5 x6 x7 x8 x9 .un) = some ((rngZ n).map .int, S2 x5 x6 x7 x8 x9 .un) := fun x5 x6 x7 x8 x9 => by
    rw [← rngN_ints]
    exact rng_idx (m := n) rfl rfl (by omega)
  have h1 : eval Γ' c_jn1 (S2 .un .un .un .un .un .un) = some (.lst (ss.map .int), S2 .un .un .un .un .un .un) := by
    have := comp_ints (Γ := Γ') (own := [10]) (tg := .name 10) (c := .nop) (e := (.ite (.op2 .eq (.var 10) (.var 3)) (.var 4) (.cst (.int 1)))) (fun c => if c = b then s else 1) (hI .un .un .un .un .un) rfl rfl rfl (fun c _ => by
      by_cases q : c = b <;> simp [compF, evalC, evEq_int, q, hide, unAt, S2]) (by simp [rngZ]; omega)
    exact this
  refine nx_step (st1 := S2 (.dat (frD n rs2)) .un .un .un .un .un) (by simp only [S2] at h1; simp [S2, h1, r2]) ?_
  refine nx_step (st1 := S2 (.dat (frD n rs2)) (.dat (.int lo)) (.dat (.int hi)) .un .un .un) ?_ ?_
  · have m1 : (if b < a then b else a) = lo := by simp only [lo]; split <;> omega
    have m2 : (if a < b then b else a) = hi := by simp only [hi]; split <;> omega
    simp [S2, m1, m2]
  have h2 : eval Γ' c_jn2 (S2 (.dat (frD n rs2)) (.dat (.int lo)) (.dat (.int hi)) .un .un .un) = some (.lst (((rngZ n).map (nmJ lo hi)).map .int), S2 (.dat (frD n rs2)) (.dat (.int lo)) (.dat (.int hi)) .un .un .un) :=
    comp_ints (Γ := Γ') (nmJ lo hi) (hI _ _ _ _ _) rfl rfl rfl (fun c _ => by
      by_cases q : c = hi
      · simp [compF, evalC, evEq_int, q, hide, unAt, S2, nmJ]
      · by_cases q2 : hi < c <;> simp [compF, evalC, evEq_int, q, q2, hide, unAt, S2, nmJ]) (by simp [rngZ]; omega)
  refine nx_step (st1 := S2 (.dat (frD n rs2)) (.dat (.int lo)) (.dat (.int hi)) (.lst (((rngZ n).map (nmJ lo hi)).map .int)) .un .un) (by rw [x_set, h2]; simp [S2]) ?_
  let rs3 := (rs.take i ++ rs.drop (i + 1)).map (swR (jnT (a, b, s)))
  refine nx_step (st1 := S2 (.dat (frD n rs2)) (.dat (.int lo)) (.dat (.int hi)) (.lst (((rngZ n).map (nmJ lo hi)).map .int)) (.dat (.tuple (rs3.map rdD))) .un) ?_ ?_
  · have c1 := cut_pre (ys := rs2.map rdD) (n := i)
    have c2 := cut_post (ys := rs2.map rdD) (n := i + 1)
    have c2' : cutD (rs2.map rdD) (some ((i : Int) + 1)) none = _ := c2
    have e3 : (rs2.map rdD).take i ++ (rs2.map rdD).drop (i + 1) = rs3.map rdD := by
      simp only [rs2, rs3, List.map_append, List.map_take, List.map_drop]
    have e4 : ((rs2.map rdD).take i).length + ((rs2.map rdD).drop (i + 1)).length ≤ sizeLine := by
      rw [sizeLine_eq, List.length_take, List.length_drop, List.length_map]
      simp only [rs2, List.length_map]
      omega
    simp only [x_set, e_op2, e_slc, e_idx, e_var, e_cst, S2, get_lit]
    simp [slcT, c1, c2', -List.map_take, -List.map_drop, -List.length_take, -List.length_drop, -List.length_map]
    simp only [evAdd, e4, if_true, e3]
    simp
  have hok : ∀ r ∈ rs3, (0 ≤ r.1 ∧ r.1 < n) ∧ (0 ≤ r.2.1 ∧ r.2.1 < n) := fun r hr => by
    obtain ⟨r0, hr0, rfl⟩ := List.mem_map.mp hr
    have : r0 ∈ rs := by
      rcases List.mem_append.mp hr0 with q | q
      · exact List.mem_of_mem_take q
      · exact List.mem_of_mem_drop q
    exact ⟨(F.g r0 this).1, (F.g r0 this).2.1⟩
  have l3 : rs3.length ≤ 1000 := by
    simp only [rs3, List.length_map, List.length_append, List.length_take, List.length_drop]
    omega
  have h3 : ∀ x8 : Sl, x8 = .lst (((rngZ n).map (nmJ lo hi)).map .int) → eval Γ' c_jn3 (S2 (.dat (frD n rs2)) (.dat (.int lo)) (.dat (.int hi)) x8 (.dat (.tuple (rs3.map rdD))) .un) = some (.lst ((rs3.map (jnR lo hi)).map rdD), S2 (.dat (frD n rs2)) (.dat (.int lo)) (.dat (.int hi)) x8 (.dat (.tuple (rs3.map rdD))) .un) := fun x8 hx => by
    subst hx
    have hI3 : evalI Γ' (.seq (.var 9)) (S2 (.dat (frD n rs2)) (.dat (.int lo)) (.dat (.int hi)) (.lst (((rngZ n).map (nmJ lo hi)).map .int)) (.dat (.tuple (rs3.map rdD))) .un) = some (rs3.map rdD, S2 (.dat (frD n rs2)) (.dat (.int lo)) (.dat (.int hi)) (.lst (((rngZ n).map (nmJ lo hi)).map .int)) (.dat (.tuple (rs3.map rdD))) .un) := by simp [evalI, S2]
    have at1 : ∀ c : Int, 0 ≤ c → c < n → L2.atI (((rngZ n).map (nmJ lo hi)).map PyData.int) c = some (.int (nmJ lo hi c)) := fun c c0 c1 => by
      have := fL_at (n := n) (f := nmJ lo hi) c0 c1
      have e : fL n (nmJ lo hi) = ((rngZ n).map (nmJ lo hi)).map PyData.int := by simp [fL, rngZ, Function.comp_def]
      rw [← e]; exact this
    have := comp_enc (Γ := Γ') (own := [11, 12, 13]) (tg := (.tup [(.name 11), (.name 12), (.name 13)])) (c := .nop) (e := (.tup (.cons (.idx (.var 8) (.var 11)) (.cons (.idx (.var 8) (.var 12)) (.cons (.var 13) .nil))))) (fun r => rdD (jnR lo hi r)) hI3 rfl rfl rfl (fun r hr => by
      obtain ⟨a, b⟩ := hok r hr
      have a1 := at1 _ a.1 a.2
      have a2 := at1 _ b.1 b.2
      simp only [compF, rdD, bindT_tup, bindTs_cons, bindT_name, bindTs_nil, Option.bind_some, S2, put_lit, evalC]
      simp [evIdx, a1, a2, hide, unAt, jnR, -List.map_map]) (by omega)
    rw [show (rs3.map (jnR lo hi)).map rdD = rs3.map fun r => rdD (jnR lo hi r) by rw [List.map_map]; rfl]
    exact this
  refine nx_rt (r := .dat (frD ((n : Int) - 1) (rs3.map (jnR lo hi)))) (st1 := S2 (.dat (frD n rs2)) (.dat (.int lo)) (.dat (.int hi)) (.lst (((rngZ n).map (nmJ lo hi)).map .int)) (.dat (.tuple (rs3.map rdD))) .un) ?_ ⟨_, rfl⟩
  have h3' := h3 _ rfl
  simp only [S2] at h3'
  simp [S2, h3', -List.map_map]
  rfl⟩
end
end Pf

set_option maxRecDepth 100000
/-! M10: one road more: the arrows without it, and those of the frame with it shut. -/
namespace Pf
theorem bV_congr {n : Nat} {L L' : List Road} (h : ∀ x, VE L x ↔ VE L' x) : bV n L = bV n L' := by
  unfold bV
  refine cnt_congr fun k _ => ?_
  unfold piv
  simp only [h]
theorem VE_app {L : List Road} {r : Road} {x : Int → Int} : VE (L ++ [r]) x ↔ VE L x ∧ rdx r x = 0 := VE_snoc
theorem alt_congr {n : Nat} {q : Int} : ∀ (A E E' : List Road), (∀ x, VE E x ↔ VE E' x) → alt n q A E = alt n q A E'
  | [], E, E', h => by
    show q ^ bV n E = q ^ bV n E'
    rw [bV_congr h]
  | r :: A, E, E', h => by
    show alt n q A E - alt n q A (E ++ [r]) = alt n q A E' - alt n q A (E' ++ [r])
    rw [alt_congr A E E' h, alt_congr A (E ++ [r]) (E' ++ [r]) fun x => by rw [VE_app, VE_app, h]]
theorem alt_snoc {n : Nat} {q : Int} (r : Road) : ∀ (A E : List Road), alt n q (A ++ [r]) E = alt n q A E - alt n q A (E ++ [r])
  | [], E => rfl
  | x :: A, E => by
    show alt n q (A ++ [r]) E - alt n q (A ++ [r]) (E ++ [x]) = (alt n q A E - alt n q A (E ++ [x])) - (alt n q A (E ++ [r]) - alt n q A (E ++ [r] ++ [x]))
    rw [alt_snoc r A E, alt_snoc r A (E ++ [x]), alt_congr (n := n) (q := q) A (E ++ [x] ++ [r]) (E ++ [r] ++ [x]) fun y => by simp only [VE_app, and_assoc, and_comm (a := rdx x y = 0)]]
    omega
theorem regs_snoc {n : Nat} {A E : List Road} {r : Road} (hA : ∀ q ∈ A, InN n q) (hr : InN n r) (h : ¬ triv E r) : regs (A ++ [r]) E = regs A E + regs A (E ++ [r]) := by
  have e1 := regs_alt (n := n) (A ++ [r]) E fun q hq => by
    rcases List.mem_append.mp hq with q' | q'
    · exact hA q q'
    · rw [List.mem_singleton] at q'; exact q' ▸ hr
  have e2 := regs_alt (n := n) A E hA
  have e3 := regs_alt (n := n) A (E ++ [r]) hA
  have e4 := bV_step (n := n) hr h
  have e5 : (-1 : Int) ^ bV n E = - (-1) ^ bV n (E ++ [r]) := by
    rw [← e4, Int.pow_succ]
    omega
  rw [alt_snoc, Int.mul_sub, ← e2, e5, Int.neg_mul, ← e3] at e1
  omega
/-! patterns told by other roads -/
def mulS (τ σ : List Int) : List Int := τ.zipWith (· * ·) σ
theorem cnt_mul : ∀ (τ : List Int) (P : List Int → Prop), (∀ t ∈ τ, Sg t) → cnt (fun σ => P (mulS τ σ)) (signs τ.length) = cnt P (signs τ.length)
  | [], P, _ => by
    simp [signs, mulS, cnt_cons, cnt_nil]
  | t :: τ, P, h => by
    rw [List.length_cons, cnt_signs, cnt_signs]
    have hτ : ∀ t ∈ τ, Sg t := fun u hu => h u (by simp [hu])
    have e : ∀ a : Int, (fun σ => P (mulS (t :: τ) (a :: σ))) = fun σ => P (t * a :: mulS τ σ) := fun a => rfl
    rw [e, e, cnt_mul τ (fun σ => P (t * 1 :: σ)) hτ, cnt_mul τ (fun σ => P (t * -1 :: σ)) hτ]
    rcases h t (by simp) with rfl | rfl
    · rfl
    · rw [Nat.add_comm]
      rfl
theorem okS_map {g : Road → Road} {th : Road → Int} {x y : Int → Int} : ∀ {A : List Road} {σ : List Int}, σ.length = A.length → (∀ r ∈ A, Sg (th r)) → (∀ r ∈ A, rdx (g r) y = th r * rdx r x) → (okS (A.map g) (mulS (A.map th) σ) y ↔ okS A σ x)
  | [], [], _, _, _ => Iff.rfl
  | [], t :: σ, hl, _, _ => nomatch hl
  | r :: A, [], hl, _, _ => nomatch hl
  | r :: A, t :: σ, hl, sg, h => by
    have ih := okS_map (A := A) (σ := σ) (by simpa using hl) (fun q hq => sg q (by simp [hq])) (fun q hq => h q (by simp [hq]))
    show 0 < (th r * t) * rdx (g r) y ∧ okS (A.map g) (mulS (A.map th) σ) y ↔ 0 < t * rdx r x ∧ okS A σ x
    rw [ih, h r (by simp)]
    have s2 := (sg r (by simp)).sq
    rw [show th r * t * (th r * rdx r x) = (th r * th r) * (t * rdx r x) by ac_rfl, s2, Int.one_mul]
theorem regs_map {A E E' : List Road} {g : Road → Road} {th : Road → Int} (sg : ∀ r ∈ A, Sg (th r)) (h1 : ∀ x, VE E x → ∃ y, VE E' y ∧ ∀ r ∈ A, rdx (g r) y = th r * rdx r x) (h2 : ∀ y, VE E' y → ∃ x, VE E x ∧ ∀ r ∈ A, rdx (g r) y = th r * rdx r x) : regs (A.map g) E' = regs A E := by
  unfold regs
  rw [List.length_map]
  have e := cnt_mul (A.map th) (real (A.map g) E') fun t ht => by
    obtain ⟨r, hr, rfl⟩ := List.mem_map.mp ht
    exact sg r hr
  rw [List.length_map] at e
  rw [← e]
  refine cnt_congr fun σ hs => ?_
  have hl := (signs_mem.mp hs).1
  constructor
  · rintro ⟨y, hy, ho⟩
    obtain ⟨x, hx, hr⟩ := h2 y hy
    exact ⟨x, hx, (okS_map hl sg hr).mp ho⟩
  · rintro ⟨x, hx, ho⟩
    obtain ⟨y, hy, hr⟩ := h1 x hx
    exact ⟨y, hy, (okS_map hl sg hr).mpr ho⟩
/-! the road shut -/
theorem VE_one {e : Road} {x : Int → Int} : VE [e] x ↔ x e.1 = e.2.2 * x e.2.1 := by
  unfold VE
  simp only [List.mem_singleton, forall_eq]
  unfold rdx
  omega
theorem jnT_sg {e : Road} (h : Sg e.2.2) (c : Int) : Sg (jnT e c) := by
  unfold jnT
  split
  · exact h
  · exact .inl rfl
theorem rdx_jn {t z w : Int → Int} {lo hi : Int} {r : Road} (ht : ∀ c, Sg (t c)) (h1 : z (nmJ lo hi r.1) = t r.1 * w r.1) (h2 : z (nmJ lo hi r.2.1) = t r.2.1 * w r.2.1) : rdx (jnR lo hi (swR t r)) z = t r.1 * rdx r w := by
  unfold rdx jnR swR
  dsimp only
  rw [h1, h2, Int.mul_sub]
  congr 1
  have := (ht r.2.1).sq
  rw [show t r.1 * r.2.2 * t r.2.1 * (t r.2.1 * w r.2.1) = t r.1 * (r.2.2 * ((t r.2.1 * t r.2.1) * w r.2.1)) by ac_rfl, this, Int.one_mul]
theorem regs_join {A : List Road} {e : Road} (se : Sg e.2.2) (ne : e.1 ≠ e.2.1) : regs (A.map fun r => jnR (min e.1 e.2.1) (max e.1 e.2.1) (swR (jnT e) r)) [] = regs A [e] := by
  have ta : jnT e e.1 = 1 := if_neg ne
  have tb : jnT e e.2.1 = e.2.2 := if_pos rfl
  have hcase : (min e.1 e.2.1 = e.1 ∧ max e.1 e.2.1 = e.2.1) ∨ (min e.1 e.2.1 = e.2.1 ∧ max e.1 e.2.1 = e.1) := by omega
  have hlt : min e.1 e.2.1 < max e.1 e.2.1 := by omega
  refine regs_map (th := fun r => jnT e r.1) (fun r _ => jnT_sg se _) (fun x hx => ?_) fun y _ => ?_
  · have hx := VE_one.mp hx
    refine ⟨fun k => jnT e (if k < max e.1 e.2.1 then k else k + 1) * x (if k < max e.1 e.2.1 then k else k + 1), (fun r hr => nomatch hr), fun r _ => rdx_jn (jnT_sg se) ?_ ?_⟩
    all_goals
      try dsimp only
      unfold nmJ
      split
      · rename_i q
        rw [q]
        rcases hcase with ⟨c1, c2⟩ | ⟨c1, c2⟩
        · rw [c1, c2, ta, tb, ← hx, Int.one_mul]
        · rw [c1, c2, ta, tb, ← hx, Int.one_mul]
      · rename_i q
        split
        · rename_i q2
          rw [if_neg (by omega)]
          simp
        · rename_i q2
          rw [if_pos (by omega)]
          simp
  · refine ⟨fun c => jnT e c * y (nmJ (min e.1 e.2.1) (max e.1 e.2.1) c), VE_one.mpr ?_, fun r _ => rdx_jn (jnT_sg se) ?_ ?_⟩
    · have n1 : nmJ (min e.1 e.2.1) (max e.1 e.2.1) e.1 = nmJ (min e.1 e.2.1) (max e.1 e.2.1) e.2.1 := by
        unfold nmJ
        split <;> split <;> (try split) <;> omega
      try dsimp only
      rw [ta, tb, n1, ← Int.mul_assoc, se.sq]
    all_goals
      try dsimp only
      rw [← Int.mul_assoc, (jnT_sg se _).sq, Int.one_mul]
theorem join_ok {n : Nat} {rs : List Road} (F : FrOk n rs) {i : Nat} (hi : i < rs.length) (ne : (rs.getD i (0, 0, 1)).1 ≠ (rs.getD i (0, 0, 1)).2.1) : FrOk (n - 1) (joinF rs i) ∧ 2 ≤ n ∧ (joinF rs i).length + 1 = rs.length := by
  have he : RoadOk n (rs.getD i (0, 0, 1)) := by
    have := F.g.at (i := (i : Int)) (by omega) (by omega)
    simpa using this
  unfold joinF
  generalize rs.getD i (0, 0, 1) = e at he ne
  obtain ⟨⟨a0, a1⟩, ⟨b0, b1⟩, es⟩ := he
  have h2 : 2 ≤ n := by omega
  have hn := F.n1
  have hm := F.m1
  refine ⟨⟨by omega, by omega, by simp; omega, fun r hr => ?_⟩, h2, by simp; omega⟩
  dsimp only at hr
  rw [List.map_map] at hr
  obtain ⟨r0, hr0, rfl⟩ := List.mem_map.mp hr
  have hm : r0 ∈ rs := by
    rcases List.mem_append.mp hr0 with q | q
    · exact List.mem_of_mem_take q
    · exact List.mem_of_mem_drop q
  obtain ⟨⟨c0, c1⟩, ⟨d0, d1⟩, s⟩ := F.g r0 hm
  have nm : ∀ c : Int, 0 ≤ c → c < n → 0 ≤ nmJ (min e.1 e.2.1) (max e.1 e.2.1) c ∧ nmJ (min e.1 e.2.1) (max e.1 e.2.1) c < ((n - 1 : Nat) : Int) := fun c c0 c1 => by
    unfold nmJ
    split
    · omega
    · split <;> omega
  exact ⟨nm _ c0 c1, nm _ d0 d1, Sg.mul (Sg.mul (jnT_sg es _) s) (jnT_sg es _)⟩
theorem good_in {n : Nat} {rs : List Road} (g : Good n rs) : ∀ r ∈ rs, InN n r := fun r hr => ⟨(g r hr).1, (g r hr).2.1⟩
/-- the count, led on by a road -/
theorem kn_join {n : Nat} {A : List Road} {e : Road} (F : FrOk n (A ++ [e])) (ne : e.1 ≠ e.2.1) : (knL n (A ++ [e])).length = (knL n A).length + (knL (n - 1) (joinF (A ++ [e]) A.length)).length := by
  have ge : RoadOk n e := F.g e (by simp)
  have gA : Good n A := fun r hr => F.g r (by simp [hr])
  have eg : (A ++ [e]).getD A.length (0, 0, 1) = e := by simp
  obtain ⟨F2, _, _⟩ := join_ok (i := A.length) F (by simp) (by rw [eg]; exact ne)
  unfold knL sRows
  rw [known_regs F.g, known_regs gA, known_regs F2.g, regs_snoc (n := n) (good_in gA) ⟨ge.1, ge.2.1⟩]
  · congr 1
    have e2 : joinF (A ++ [e]) A.length = A.map fun r => jnR (min e.1 e.2.1) (max e.1 e.2.1) (swR (jnT e) r) := by
      unfold joinF
      rw [eg]
      simp [Function.comp_def]
    rw [e2, regs_join ge.2.2 ne]
    rfl
  · intro t
    have := t (fun c => if c = e.1 then 1 else 0) (fun r hr => nomatch hr)
    unfold rdx at this
    dsimp only at this
    rw [if_pos rfl, if_neg fun z => ne z.symm] at this
    omega
end Pf

set_option maxRecDepth 100000
/-! K62a: the law of k62. -/
namespace Pf
open PySem
def c_62 : Ex := (.comp [13] (.name 13) (.dk 5) (.op2 .notin (.slc .cut (.var 13) .nop (.neg (.cst (.int 1)))) (.var 11)) (.var 13))
def l_62b : Sms := (.cons (.asgT (.tup [(.name 7), (.name 8), (.name 9)]) (.idx (.idx (.var 3) (.cst (.int 1))) (.neg (.cst (.int 1))))) (.cons (.set 10 (.tup (.cons (.idx (.var 3) (.cst (.int 0))) (.cons (.slc .cut (.idx (.var 3) (.cst (.int 1))) .nop (.neg (.cst (.int 1)))) .nil)))) (.cons (.set 11 (.call 28 (.cons (.var 10) .nil))) (.cons (.ite (.op2 .ne c_62 (.lst .nil)) (.cons (.ret (.cst (.bool false))) .nil) .nil) (.cons (.ite (.op2 .ne (.var 7) (.var 8)) (.cons (.set 12 (.call 28 (.cons (.call 24 (.cons (.var 3) (.cons (.op2 .sub (.bi .len (.cons (.idx (.var 3) (.cst (.int 1))) .nil)) (.cst (.int 1))) .nil))) .nil))) (.cons (.ite (.op2 .ne (.bi .len (.cons (.var 5) .nil)) (.op2 .add (.bi .len (.cons (.var 11) .nil)) (.bi .len (.cons (.var 12) .nil)))) (.cons (.ret (.cst (.bool false))) .nil) .nil) .nil)) .nil) .nil)))))
def l_62 : Sms := (.cons (.set 3 (.callS 18 (.cons (.var 1) (.cons (.idx (.lst (.cons (.cst (.int 3)) (.cons (.cst (.int 4)) (.cons (.cst (.int 4)) (.cons (.cst (.int 4)) .nil))))) (.var 2)) (.cons (.idx (.lst (.cons (.cst (.int 5)) (.cons (.cst (.int 6)) (.cons (.cst (.int 7)) (.cons (.cst (.int 7)) .nil))))) (.var 2)) .nil))))) (.cons (.asgN [4, 5] (.cons (.bi .repr (.cons (.var 3) .nil)) (.cons (.call 28 (.cons (.var 3) .nil)) .nil))) (.cons (.ite (.op2 .ne (.bi .repr (.cons (.call 13 (.cons (.var 3) .nil)) .nil)) (.bi .repr (.cons (.bi .tuple (.cons (.bi .sorted (.cons (.var 5) .nil)) .nil)) .nil))) (.cons (.ret (.cst (.bool false))) .nil) .nil) (.cons (.set 6 (.bi .abs (.cons (.call 22 (.cons (.idx (.call 21 (.cons (.var 3) .nil)) (.cst (.int 0))) (.cons (.neg (.cst (.int 1))) .nil))) .nil))) (.cons (.ite (.or2 (.op2 .ne (.bi .repr (.cons (.call 14 (.cons (.var 3) .nil)) .nil)) (.bi .repr (.cons (.var 6) .nil))) (.or2 (.op2 .ne (.bi .len (.cons (.var 5) .nil)) (.var 6)) (.op2 .ne (.bi .abs (.cons (.call 9 (.cons (.call 8 (.cons (.var 3) .nil)) (.cons (.neg (.cst (.int 1))) .nil))) .nil)) (.var 6)))) (.cons (.ret (.cst (.bool false))) .nil) .nil) (.cons (.ite (.op2 .ne (.idx (.var 3) (.cst (.int 1))) (.tup .nil)) l_62b .nil) (.cons (.ite (.op2 .ne (.bi .repr (.cons (.var 3) .nil)) (.var 4)) (.cons (.ret (.cst (.bool false))) .nil) .nil) .nil)))))))
def b_62 : Sms := (.cons (.for [2, 3, 4, 5, 6, 7, 8, 9, 10, 11, 12] (.name 2) (.rng1 (.cst (.int 4))) l_62) (.cons (.ret (.op2 .eq (.call 14 (.cons (.tup (.cons (.cst (.int 1)) (.cons (.tup (.cons (.tup (.cons (.cst (.int 0)) (.cons (.cst (.int 0)) (.cons (.cst (.int 1)) .nil)))) .nil)) .nil))) .nil)) (.cst (.int 0)))) .nil))
theorem bulk_perm {a b : List D} (h : a.Perm b) : PyData.bulkAll a = PyData.bulkAll b := by
  induction h with
  | nil => rfl
  | cons x _ ih => simp only [PyData.bulkAll, ih]
  | swap x y l => simp only [PyData.bulkAll]; omega
  | trans _ _ h1 h2 => exact h1.trans h2
theorem shD_sorted {rows : List (List Int)} (h : ∀ r ∈ rows, r.length ≤ 50 ∧ ∀ x ∈ r, x.natAbs < 100) (hl : rows.length ≤ 10000) : ShD (.tuple (sortD (rows.map tI))) where
  sm := by
    have := (shD_rows h hl).sm
    simp only [smD, List.all_eq_true] at this ⊢
    exact fun d hd => this d ((List.mergeSort_perm _ _).mem_iff.mp hd)
  bk := by
    have := bulk_rows rows fun r hr => (h r hr).1
    have e : PyData.bulkAll (sortD (rows.map tI)) = PyData.bulkAll (rows.map tI) := bulk_perm (List.mergeSort_perm _ _)
    simp only [PyData.bulk, e]
    omega
theorem kn_bound {n : Nat} {rs : List Road} (h1 : 1 ≤ n) (h2 : n ≤ 4) : (knL n rs).length ≤ 1000 := by
  have := kn_le (rs := rs) (sRows n) []
  have := (sRows_ok h1 h2).1
  unfold knL knownL
  simp at *
  omega
theorem shD_ha {n : Nat} {rs : List Road} (h1 : 1 ≤ n) (h2 : n ≤ 4) (h3 : rs.length ≤ 50) : ShD (.tuple (haD n rs)) := shD_sorted (fun r hr => by
  obtain ⟨a, b⟩ := kn_len r hr
  exact ⟨by omega, fun x hx => by rcases b x hx with rfl | rfl <;> decide⟩) (by have := kn_bound (rs := rs) h1 h2; omega)
theorem shD_nat {m : Nat} (h : m < 1000000) : ShD (.int m) := ⟨decide_eq_true (by omega), by simp [PyData.bulk]⟩
theorem first_sorted (n : Nat) (rs : List Road) : bSorted (dctD true (kvP (frst (firstL n rs)))) = some (.lst (haD n rs)) := by
  unfold bSorted
  simp only [sortItems_dct, kvP_keys, frst_keys, first_keys, Option.bind_some, kn_sort, if_true]
  rfl
theorem first_len (n : Nat) (rs : List Road) : (kvP (frst (firstL n rs))).length = (knL n rs).length := by
  rw [← first_keys]
  simp [kvP, frst]
structure Has62 (Γ : Nat → Fn) : Prop where
  frame : HasFrame Γ 18
  lha : HasLHA Γ 28
  ha : HasHA Γ 13
  both : HasBoth Γ 21
  lat : HasLat Γ 22
  region : HasRegion Γ 14
  rowat : HasRowAt Γ 9
  colour : HasColour Γ 8
  jn : HasJn Γ 24
theorem pow_small (m : Nat) : powS (-1) m := fun j _ => by
  have : (-1 : Int) ^ j = 1 ∨ (-1 : Int) ^ j = -1 := by
    induction j with
    | zero => exact .inl rfl
    | succ j ih =>
      rw [Int.pow_succ]
      omega
  exact sign_small this
theorem regs_kn {n : Nat} {rs : List Road} (g : Good n rs) : (knL n rs).length = regs rs [] := known_regs g
/-- a prefix of known arrows is known -/
theorem kn_init {n : Nat} {A : List Road} {e : Road} (g : Good n (A ++ [e])) {a : List Int} (h : a ∈ knL n (A ++ [e])) : a.dropLast ∈ knL n A := by
  obtain ⟨row, hrow, e1⟩ := known_mem.mp h
  refine known_mem.mpr ⟨row, hrow, ?_⟩
  unfold arrO at e1 ⊢
  split at e1
  · cases e1
  · rename_i q
    injection e1 with e1
    rw [if_neg fun z => q (by simp only [List.map_append, List.mem_append]; exact .inl z), ← e1]
    simp
theorem snoc_cases {α : Type} (l : List α) : l = [] ∨ ∃ A e, l = A ++ [e] := snoc_ind (P := fun l => l = [] ∨ ∃ A e, l = A ++ [e]) (.inl rfl) (fun A e _ => .inr ⟨A, e, rfl⟩) l
section
variable {Γ : Nat → Fn}
theorem ret_len {T : Bool} {kvs : List (D × D)} : bLen (dctD T kvs) = some (.dat (.int kvs.length)) := rfl
theorem last_idx {A : List Road} {e : Road} : evIdx (.tuple ((A ++ [e]).map rdD)) (.int (-1)) = some (rdD e) := by
  have h : L2.atI ((A ++ [e]).map rdD) (-1) = some (rdD e) := by
    have z : L2.ixN ((A ++ [e]).map rdD).length (-1) = some A.length := by
      simp only [L2.ixN, List.length_map, List.length_append, List.length_cons, List.length_nil]
      rw [if_neg (by omega), if_pos (by omega)]
      congr 1
      omega
    unfold L2.atI
    rw [z]
    simp
  exact h
abbrev E62 (lap : Sl) (s : Src) : St := ⟨[.un, .src, lap, .un, .un, .un, .un, .un, .un, .un, .un, .un, .un, .un], some s⟩
theorem lap62 (h : Has62 Γ) (lap : Nat) (hlap : lap < 4) (s : Src) : Nx Γ l_62 (E62 (.dat (.int lap)) s) fun o => ∃ s2, o = .nx s2 ∧ ∃ s', clear [2, 3, 4, 5, 6, 7, 8, 9, 10, 11, 12] s2 = E62 .un s' := by
  obtain ⟨most, many, i1, i2, b1, b2, b3, b4⟩ : ∃ most many : Int, evIdx (.list [.int 3, .int 4, .int 4, .int 4]) (.int lap) = some (.int most) ∧ evIdx (.list [.int 5, .int 6, .int 7, .int 7]) (.int lap) = some (.int many) ∧ 1 ≤ most ∧ most ≤ 4 ∧ 0 ≤ many ∧ many ≤ 7 := by
    rcases (show lap = 0 ∨ lap = 1 ∨ lap = 2 ∨ lap = 3 by omega) with rfl | rfl | rfl | rfl
    · exact ⟨3, 5, rfl, rfl, by omega, by omega, by omega, by omega⟩
    · exact ⟨4, 6, rfl, rfl, by omega, by omega, by omega, by omega⟩
    · exact ⟨4, 7, rfl, rfl, by omega, by omega, by omega, by omega⟩
    · exact ⟨4, 7, rfl, rfl, by omega, by omega, by omega, by omega⟩
  obtain ⟨n', rs, s1, h1, hn, hl, hr⟩ := h.frame.run s most many b1 (by omega) b3 (by omega)
  obtain ⟨n, rfl⟩ : ∃ N : Nat, n' = N := ⟨n'.toNat, by omega⟩
  have F : FrOk n rs := ⟨by omega, by omega, by omega, hr⟩
  have n4 : n ≤ 4 := by omega
  have l7 : rs.length ≤ 7 := by omega
  have hsh := (shD_frame (n := n) (rs := rs) (by omega) (by omega) hr (by omega)).repr
  have hha := (shD_ha (rs := rs) F.n0 n4 (by omega)).repr
  have k1 := h.lha.run n rs F n4
  have k2 := h.ha.run n rs F n4
  have k3 := h.both.run n rs F (by omega)
  have k4 := h.lat.run (colourL n rs) (-1) (pow_small _)
  have k5 := h.region.run n rs F (by omega)
  have k6 := h.colour.run n rs F (by omega)
  have k7 := h.rowat.run (colourL n rs) (-1) (by decide)
  have c1 := regs_colour F
  have c2 := regs_kn F.g
  have c3 := kn_bound (rs := rs) F.n0 n4
  have hrg := (shD_nat (m := regs rs []) (by omega)).repr
  have fl := first_len n rs
  have fs := first_sorted n rs
  have q3 : evIdx (.tuple [tI (colourL n rs), tI (bareL n rs)]) (.int 0) = some (tI (colourL n rs)) := rfl
  unfold l_62
  let S : Sl → Sl → Sl → Sl → Sl → Sl → Sl → Sl → St := fun x5 x6 x7 x8 x9 x10 x11 x12 => ⟨[.un, .src, .dat (.int lap), .dat (frD n rs), .dat (.str (frD n rs).shown), x5, x6, x7, x8, x9, x10, x11, x12, .un], some s1⟩
  refine nx_step (st1 := ⟨[.un, .src, .dat (.int lap), .dat (frD n rs), .un, .un, .un, .un, .un, .un, .un, .un, .un, .un], some s1⟩) (by simp [i1, i2, h1]) ?_
  refine nx_step (st1 := S (.dct true (kvP (frst (firstL n rs)))) .un .un .un .un .un .un .un) (by simp [hsh, k1, S]) ?_
  refine nx_skip (st1 := S (.dct true (kvP (frst (firstL n rs)))) .un .un .un .un .un .un .un) (by simp [k2, hha, fs, S, ne_self]) ?_
  refine nx_step (st1 := S (.dct true (kvP (frst (firstL n rs)))) (.dat (.int (regs rs []))) .un .un .un .un .un .un) (by simp [k3, q3, k4, c1, S]) ?_
  refine nx_skip (st1 := S (.dct true (kvP (frst (firstL n rs)))) (.dat (.int (regs rs []))) .un .un .un .un .un .un) (by simp [k5, hrg, ne_self, ret_len, fl, c2, evEq_int, k6, k7, c1, S]) ?_
  have fin : ∀ x5 x6 x7 x8 x9 x10 x11 x12, Nx Γ (.cons (.ite (.op2 .ne (.bi .repr (.cons (.var 3) .nil)) (.var 4)) (.cons (.ret (.cst (.bool false))) .nil) .nil) .nil) (S x5 x6 x7 x8 x9 x10 x11 x12) fun o => ∃ s2, o = .nx s2 ∧ ∃ s', clear [2, 3, 4, 5, 6, 7, 8, 9, 10, 11, 12] s2 = E62 .un s' := fun x5 x6 x7 x8 x9 x10 x11 x12 => nx_skip (st1 := S x5 x6 x7 x8 x9 x10 x11 x12) (by simp [hsh, ne_self, S]) (nx_nil ⟨_, rfl, s1, rfl⟩)
  rcases snoc_cases rs with rfl | ⟨A, e, rfl⟩
  · refine nx_skip (st1 := S (.dct true (kvP (frst (firstL n [])))) (.dat (.int (regs [] []))) .un .un .un .un .un .un) ?_ (fin _ _ _ _ _ _ _ _)
    have : evEq (.tuple []) (.tuple []) = some true := rfl
    simp [S, this]
  · have gA : Good n A := fun r hr => F.g r (by simp [hr])
    have FA : FrOk n A := ⟨F.n0, F.n1, by have := F.m1; simp at this; omega, gA⟩
    have la : A.length ≤ 6 := by simp at l7; omega
    have ge : RoadOk n e := F.g e (by simp)
    have k8 := h.lha.run n A FA n4
    have lx := last_idx (A := A) (e := e)
    have cx := cut_init (ys := (A ++ [e]).map rdD)
    have cy : ((A ++ [e]).map rdD).dropLast = A.map rdD := by simp
    rw [cy] at cx
    have tn : evEq (.tuple ((A ++ [e]).map rdD)) (.tuple []) = some false := by
      have h1 : okD 12 (.tuple ((A ++ [e]).map rdD)) = true := by
        show ((A ++ [e]).map rdD).all (okD 11) = true
        rw [List.all_eq_true]
        intro d hd
        obtain ⟨r, _, rfl⟩ := List.mem_map.mp hd
        rfl
      have h2 : PyData.eqv (.tuple ((A ++ [e]).map rdD)) (.tuple []) = false := by
        cases A <;> rfl
      show (if okD 12 (.tuple ((A ++ [e]).map rdD)) && okD 12 (.tuple []) then some (PyData.eqv (.tuple ((A ++ [e]).map rdD)) (.tuple [])) else none) = _
      rw [h1, h2]; rfl
    refine nx_yes (st1 := S (.dct true (kvP (frst (firstL n (A ++ [e]))))) (.dat (.int (regs (A ++ [e]) []))) .un .un .un .un .un .un) ?_ ?_
    · simp [S, tn, -List.map_append]
    unfold l_62b
    refine nx_step (st1 := S (.dct true (kvP (frst (firstL n (A ++ [e]))))) (.dat (.int (regs (A ++ [e]) []))) (.dat (.int e.1)) (.dat (.int e.2.1)) (.dat (.int e.2.2)) .un .un .un) ?_ ?_
    · simp [S, lx, -List.map_append]
      simp [rdD]
    refine nx_step (st1 := S (.dct true (kvP (frst (firstL n (A ++ [e]))))) (.dat (.int (regs (A ++ [e]) []))) (.dat (.int e.1)) (.dat (.int e.2.1)) (.dat (.int e.2.2)) (.dat (frD n A)) .un .un) ?_ ?_
    · simp [S, slcT, cx, -List.map_append]
      rfl
    refine nx_step (st1 := S (.dct true (kvP (frst (firstL n (A ++ [e]))))) (.dat (.int (regs (A ++ [e]) []))) (.dat (.int e.1)) (.dat (.int e.2.1)) (.dat (.int e.2.2)) (.dat (frD n A)) (.dct true (kvP (frst (firstL n A)))) .un) (by simp [S, k8]) ?_
    let T : Sl → Sl → St := fun x11 x12 => S (.dat (dctD true (kvP (frst (firstL n (A ++ [e])))))) (.dat (.int (regs (A ++ [e]) []))) (.dat (.int e.1)) (.dat (.int e.2.1)) (.dat (.int e.2.2)) (.dat (frD n A)) x11 x12
    have hI : evalI Γ (.dk 5) (S (.dct true (kvP (frst (firstL n (A ++ [e]))))) (.dat (.int (regs (A ++ [e]) []))) (.dat (.int e.1)) (.dat (.int e.2.1)) (.dat (.int e.2.2)) (.dat (frD n A)) (.dct true (kvP (frst (firstL n A)))) .un) = some ((knL n (A ++ [e])).map tI, T (.dct true (kvP (frst (firstL n A)))) .un) := by
      simp [evalI, S, T, kvP_keys, frst_keys, first_keys]
    have hc := comp_encF (Γ := Γ) (own := [13]) (tg := .name 13) (c := (.op2 .notin (.slc .cut (.var 13) .nop (.neg (.cst (.int 1)))) (.var 11))) (e := .var 13) (fun _ => false) tI hI rfl rfl rfl (fun a ha => by
      have ki := kvP_in (frst (firstL n A)) a.dropLast
      rw [frst_keys, first_keys, decide_eq_true (kn_init F.g ha)] at ki
      have cd : cutD (a.map PyData.int) none (some (-1)) = a.dropLast.map .int := by rw [cut_init]; simp
      have sl : evSlc .cut (tI a) none (some (-1)) = some (.dat (tI a.dropLast)) := by
        show some (Rv.dat (.tuple (cutD (a.map PyData.int) none (some (-1))))) = _
        rw [cd]; rfl
      simp [compF, evalC, T, S, sl, ki, hide, unAt]) (by omega)
    have hc' : eval Γ c_62 (S (.dct true (kvP (frst (firstL n (A ++ [e]))))) (.dat (.int (regs (A ++ [e]) []))) (.dat (.int e.1)) (.dat (.int e.2.1)) (.dat (.int e.2.2)) (.dat (frD n A)) (.dct true (kvP (frst (firstL n A)))) .un) = some (.lst [], T (.dct true (kvP (frst (firstL n A)))) .un) := by
      have := hc
      rw [show (knL n (A ++ [e])).filter (fun _ => false) = [] by simp] at this
      exact this
    have nn : evEq (.list []) (.list []) = some true := rfl
    refine nx_skip (st1 := T (.dct true (kvP (frst (firstL n A)))) .un) (by simp [hc', nn]) ?_
    by_cases ne : e.1 = e.2.1
    · refine nx_skip (st1 := T (.dct true (kvP (frst (firstL n A)))) .un) (by simp [T, S, evEq_int, ne]) (nx_nil ?_)
      exact fin _ _ _ _ _ _ _ _
    · refine nx_yes (st1 := T (.dct true (kvP (frst (firstL n A)))) .un) (by simp [T, S, evEq_int, ne]) ?_
      obtain ⟨FJ, n2, lj⟩ := join_ok (i := A.length) F (by simp) (by simpa using ne)
      have k9 := h.jn.run n (A ++ [e]) A.length F (by simp)
      have ec : (n : Int) - 1 = ((n - 1 : Nat) : Int) := by omega
      rw [ec] at k9
      have k10 := h.lha.run (n - 1) _ FJ (by omega)
      have le1 : ((A ++ [e]).map rdD).length = A.length + 1 := by simp
      have le2 : ((A.length + 1 : Nat) : Int) - 1 = A.length := by omega
      have kj := kn_join F ne
      have flA := first_len n A
      have flJ := first_len (n - 1) (joinF (A ++ [e]) A.length)
      refine nx_step (st1 := T (.dct true (kvP (frst (firstL n A)))) (.dct true (kvP (frst (firstL (n - 1) (joinF (A ++ [e]) A.length)))))) ?_ ?_
      · have le3 : (((A ++ [e]).map rdD).length : Int) - 1 = A.length := by rw [le1]; exact le2
        simp only [x_set, e_call, v_cons, e_var, T, S, get_lit, e_op2, e_bi, vv_cons, e_idx, e_cst]
        simp [-List.map_append, -List.length_map, le3, k9, k10]
      refine nx_skip (st1 := T (.dct true (kvP (frst (firstL n A)))) (.dct true (kvP (frst (firstL (n - 1) (joinF (A ++ [e]) A.length)))))) ?_ (nx_nil (nx_nil (fin _ _ _ _ _ _ _ _)))
      have : ((knL n (A ++ [e])).length : Int) = (knL n A).length + (knL (n - 1) (joinF (A ++ [e]) A.length)).length := by omega
      simp [T, S, ret_len, fl, flA, flJ, evEq_int, this]
theorem law62 (h : Has62 Γ) (s : Src) : ∃ st', execs Γ b_62 ⟨.un :: .src :: List.replicate 12 .un, some s⟩ = some (.rt (.dat (.bool true)) st') := by
  refine ret_true ?_
  show Nx Γ b_62 (E62 .un s) _
  unfold b_62
  refine nx_loop (ds := rngN 4) (st0 := E62 .un s) (I := fun _ st => ∃ s, st = E62 .un s) (by simp [evalI, rngN]) ⟨s, rfl⟩ (fun i d s0 hd hI => ?_) fun st' hI => ?_
  · obtain ⟨s, rfl⟩ := hI
    obtain ⟨hi, rfl⟩ := rngN_at hd
    refine ⟨E62 (.dat (.int i)) s, rfl, ?_⟩
    obtain ⟨o, e, s2, rfl, s', h2⟩ := lap62 h i hi s
    exact ⟨_, e, s2, .inl rfl, s', h2⟩
  · obtain ⟨s, rfl⟩ := hI
    have F1 : FrOk 1 [(0, 0, 1)] := ⟨by omega, by omega, by simp, fun r hr => by
      rw [List.mem_singleton] at hr
      subst hr
      exact ⟨⟨by decide, by decide⟩, ⟨by decide, by decide⟩, .inl rfl⟩⟩
    have e1 := h.region.run 1 [(0, 0, 1)] F1 (by simp)
    have e2 : regs [(0, 0, 1)] [] = 0 := regs_triv fun x _ => by unfold rdx; simp
    rw [e2] at e1
    have e1' : (Γ 14).runP [.tuple [.int 1, .tuple [.tuple [.int 0, .int 0, .int 1]]]] = some (.dat (.int 0)) := e1
    refine nx_rt (r := .dat (.bool true)) (st1 := E62 .un s) (by simp [e1', evEq_int]) ⟨_, rfl⟩
end
end Pf

set_option maxRecDepth 100000
/-! Pf20: the join of a law. -/
namespace Pf
open PySem PySem.Spec PyProof.Rows
open L2 (FnScope defBody defScope Fun Binds)
theorem tab_of {defs : List DefC} {fns : List (Str × Nat × Nat × Bool)} (h : (fns.all fun e => match defs[e.2.1]? with
    | some d => d.x == e.1 && d.ps.length == e.2.2.1 && d.src == e.2.2.2
    | none => false) = true) : ∀ x i n b, fns.lookup x = some (i, n, b) → ∃ d, defs[i]? = some d ∧ d.x = x ∧ d.ps.length = n ∧ d.src = b := by
  intro x i n b e
  have hm := PySem.mem_of_lookup e
  have := List.all_eq_true.mp h _ hm
  dsimp only at this
  split at this
  · rename_i d hd
    simp only [Bool.and_eq_true, beq_iff_eq] at this
    exact ⟨d, hd, this.1.1, this.1.2, this.2⟩
  · cases this
end Pf
namespace Pf
open PySem PySem.Spec PyProof.Rows
open L2 (FnScope defBody defScope defArgs Fun Binds fun_mk)
theorem defAt_mk {K : PySem.W.Frag} {h : Heap} {mg : Str → Option Value} {d : DefC} {f : Addr} {oc : Value} {od an : Option Addr} {osl : Array (Option Value)} {kV doc pm cdv ct : Value} (X : K.In h) (G : h.Ns mainGlobals mg)
    (a : PySem.W.nsIn K mainGlobals d.x = some (some (.ref f))) (l : K.lookup f = some ⟨oc, od, .func (PySem.W.fnOf d.x d.x (defArgs d.st) (defBody d.st) (defScope d.st) .none kV doc pm an cdv ct), osl⟩) (c : PySem.W.codeIn K cdv d.x = true) (k : PySem.W.keepIn K (.ref f) = true)
    (b : ∀ (kV doc pm : Value) (an : Option Addr) (cdv ct : Value) (us : List Value), us.length = d.ps.length → bindArgs (PySem.W.fnOf d.x d.x (defArgs d.st) (defBody d.st) (defScope d.st) .none kV doc pm an cdv ct) ⟨us, []⟩ = pure (d.ps.zip us)) : DefAt K mg d :=
  ⟨f, _, fun_mk l c k, PySem.W.mg_of X G a, (fun_mk l c k).binds b⟩
def AtAll (defs : List DefC) {K : PySem.W.Frag} {h : Heap} (_ : K.In h) (mg : Str → Option Value) : Prop := ∀ d ∈ defs, DefAt K mg d
theorem law_mk {K : PySem.W.Frag} {h : Heap} {mg : Str → Option Value} {f fa : Addr} {st : Stmt} {oc : Value} {od an : Option Addr} {osl : Array (Option Value)} {kV doc pm cdv ct : Value} (X : K.In h) (G : h.Ns mainGlobals mg) (hfa : mg "law" = some (.ref fa))
    (a : PySem.W.nsIn K mainGlobals "law" = some (some (.ref f))) (l : K.lookup f = some ⟨oc, od, .func (PySem.W.fnOf "law" "law" (defArgs st) (defBody st) (defScope st) .none kV doc pm an cdv ct), osl⟩) (c : PySem.W.codeIn K cdv "law" = true) (k : PySem.W.keepIn K (.ref f) = true)
    (b : ∀ (kV doc pm : Value) (an : Option Addr) (cdv ct : Value) (us : List Value), us.length = 1 → bindArgs (PySem.W.fnOf "law" "law" (defArgs st) (defBody st) (defScope st) .none kV doc pm an cdv ct) ⟨us, []⟩ = pure ([("script" : Str)].zip us)) :
    ∃ fd, Fun K "law" "law" st fa fd ∧ ∀ (s : Shared) (v : Value), BindsTo s fd ⟨[v], []⟩ [("script", v)] := by
  have e := hfa.symm.trans (PySem.W.mg_of X G a)
  cases e
  exact ⟨_, fun_mk l c k, fun s v => .of_eq (b _ _ _ _ _ _ [v] rfl)⟩
def LawAt (st : Stmt) {K : PySem.W.Frag} {h : Heap} (_ : K.In h) (fa : Addr) : Prop := ∃ fd, Fun K "law" "law" st fa fd ∧ ∀ (s : Shared) (v : Value), BindsTo s fd ⟨[v], []⟩ [("script", v)]
def SrcDef (st : Stmt) {K : PySem.W.Frag} {h : Heap} (_ : K.In h) (mg : Str → Option Value) : Prop := ∃ f fd, Fun K "_law_source" "_law_source" st f fd ∧ mg "_law_source" = some (.ref f) ∧ Binds K fd ["script"] []
theorem src_mk {K : PySem.W.Frag} {h : Heap} {mg : Str → Option Value} {f : Addr} {st : Stmt} {oc : Value} {od an : Option Addr} {osl : Array (Option Value)} {kV doc pm cdv ct : Value} (X : K.In h) (G : h.Ns mainGlobals mg)
    (a : PySem.W.nsIn K mainGlobals "_law_source" = some (some (.ref f))) (l : K.lookup f = some ⟨oc, od, .func (PySem.W.fnOf "_law_source" "_law_source" (defArgs st) (defBody st) (defScope st) .none kV doc pm an cdv ct), osl⟩) (c : PySem.W.codeIn K cdv "_law_source" = true) (k : PySem.W.keepIn K (.ref f) = true)
    (b : ∀ (kV doc pm : Value) (an : Option Addr) (cdv ct : Value) (us : List Value), us.length = 1 → bindArgs (PySem.W.fnOf "_law_source" "_law_source" (defArgs st) (defBody st) (defScope st) .none kV doc pm an cdv ct) ⟨us, []⟩ = pure ([("script" : Str)].zip us)) : SrcDef st X mg :=
  ⟨f, _, fun_mk l c k, PySem.W.mg_of X G a, (fun_mk l c k).binds b⟩
theorem lev_tb {P : Program} {w : World} {K : PySem.W.Frag} {mg : Str → Option Value} {base : Heap} {k : Nat} {Γ : Nat → Fn} {T T' : Tb} (L : Lev P w K mg base k Γ T) (h1 : T'.fns = T.fns) (h2 : T'.blt = T.blt) : Lev P w K mg base k Γ T' := ⟨by rw [h1]; exact L.fns, by rw [h2]; exact L.blt⟩
end Pf

set_option maxRecDepth 100000
set_option maxHeartbeats 4000000
namespace Pf.K62
open PySem PySem.Spec PyProof.Rows Pf
open L2 (FnScope defBody defScope Fun Binds)
def topS (i : Nat) : Stmt := PySem.Challenge.pw_signedframes_k62_whole_how_many_arrows.main.body.getD i (.Pass ⟨0, 0, 0, 0⟩)
def d_does_fit : DefC := ⟨("does_fit" : Str), topS 1, [("road" : Str), ("sides" : Str), ("a" : Str), ("b" : Str), ("sign" : Str)], [("road" : Str), ("sides" : Str)], false, [], b_fit, []⟩
def d_heads_and_sides : DefC := ⟨("heads_and_sides" : Str), topS 2, [("frame" : Str), ("lot" : Str), ("heads" : Str), ("sides" : Str), ("forest" : Str), ("road" : Str), ("a" : Str), ("b" : Str), ("sign" : Str), ("low" : Str), ("high" : Str), ("turn" : Str), ("crossing" : Str)], [("frame" : Str), ("lot" : Str)], false, [(7, [5, 6, 7, 8, 9, 10, 11, 12]), (13, [12])], b_has, []⟩
def d_lot_pieces : DefC := ⟨("lot_pieces" : Str), topS 3, [("frame" : Str), ("lot" : Str), ("heads" : Str), ("k" : Str), ("c" : Str)], [("frame" : Str), ("lot" : Str)], false, [], b_pieces 1, []⟩
def d_told_sides : DefC := ⟨("told_sides" : Str), topS 4, [("frame" : Str), ("lot" : Str)], [("frame" : Str), ("lot" : Str)], false, [], b_told 1, []⟩
def d_unfit_roads : DefC := ⟨("unfit_roads" : Str), topS 5, [("frame" : Str), ("lot" : Str), ("sides" : Str), ("road" : Str)], [("frame" : Str), ("lot" : Str), ("sides" : Str)], false, [], b_unfit 0, []⟩
def d_piece_marks : DefC := ⟨("piece_marks" : Str), topS 6, [("frame" : Str), ("lot" : Str), ("unfit" : Str), ("bad" : Str), ("road" : Str), ("piece" : Str), ("c" : Str)], [("frame" : Str), ("lot" : Str)], false, [], b_pmarks 2 3 4, []⟩
def d_balanced_count : DefC := ⟨("balanced_count" : Str), topS 7, [("frame" : Str), ("lot" : Str), ("piece" : Str), ("is_one" : Str)], [("frame" : Str), ("lot" : Str)], false, [], b_bal 5, []⟩
def d_lots_of_roads : DefC := ⟨("lots_of_roads" : Str), topS 9, [("many" : Str), ("found" : Str), ("road" : Str), ("lot" : Str)], [("many" : Str)], false, [(33, [2])], b_lots, []⟩
def d_colour_row : DefC := ⟨("colour_row" : Str), topS 10, [("frame" : Str), ("found" : Str), ("lot" : Str)], [("frame" : Str)], false, [(38, [2])], b_colour 7 6, []⟩
def d_row_at : DefC := ⟨("row_at" : Str), topS 11, [("row" : Str), ("x" : Str), ("total" : Str), ("number" : Str)], [("row" : Str), ("x" : Str)], false, [(43, [3])], b_rowat, []⟩
def d_readings_of : DefC := ⟨("readings_of" : Str), topS 13, [("frame" : Str), ("heights" : Str), ("a" : Str), ("b" : Str), ("sign" : Str)], [("frame" : Str), ("heights" : Str)], false, [], b_read, []⟩
def d_arrows_of_heights : DefC := ⟨("arrows_of_heights" : Str), topS 14, [("frame" : Str), ("heights" : Str), ("readings" : Str), ("number" : Str)], [("frame" : Str), ("heights" : Str)], false, [], b_arrows 10, []⟩
def d_signed_rows : DefC := ⟨("signed_rows" : Str), topS 15, [("n" : Str), ("found" : Str), ("lap" : Str), ("late" : Str), ("row" : Str), ("sizes" : Str), ("rest" : Str), ("one" : Str), ("size" : Str), ("number" : Str)], [("n" : Str)], false, [(54, [2, 3, 4, 5, 6]), (56, [4, 5, 6])], b_srows, []⟩
def d_height_arrows : DefC := ⟨("height_arrows" : Str), topS 16, [("frame" : Str), ("found" : Str), ("row" : Str), ("arrows" : Str)], [("frame" : Str)], false, [(64, [2, 3])], b_ha 11 12, [(63, 12)]⟩
def d_region_count : DefC := ⟨("region_count" : Str), topS 17, [("frame" : Str)], [("frame" : Str)], false, [], b_region 9 8, []⟩
def d__law_pick : DefC := ⟨("_law_pick" : Str), topS 20, [("source" : Str), ("many" : Str), ("left" : Str), ("mixed" : Str)], [("source" : Str), ("many" : Str)], true, [(78, [])], b_pick, []⟩
def d__law_of : DefC := ⟨("_law_of" : Str), topS 21, [("source" : Str), ("some" : Str)], [("source" : Str), ("some" : Str)], true, [], b_of 15, []⟩
def d__law_mixed : DefC := ⟨("_law_mixed" : Str), topS 22, [("source" : Str), ("things" : Str), ("rest" : Str), ("lap" : Str)], [("source" : Str), ("things" : Str)], true, [], b_mixed 15, []⟩
def d__law_frame : DefC := ⟨("_law_frame" : Str), topS 23, [("source" : Str), ("most" : Str), ("many" : Str), ("n" : Str), ("roads" : Str), ("names" : Str), ("lap" : Str), ("a" : Str), ("b" : Str), ("sign" : Str)], [("source" : Str), ("most" : Str), ("many" : Str)], true, [(97, [6, 7, 8, 9])], b_frame 15 16 17, []⟩
def d__law_lots : DefC := ⟨("_law_lots" : Str), topS 24, [("many" : Str), ("found" : Str), ("x" : Str), ("lot" : Str)], [("many" : Str)], false, [(107, [2])], b_lots2, []⟩
def d__law_bits : DefC := ⟨("_law_bits" : Str), topS 25, [("frame" : Str), ("lot" : Str), ("n" : Str), ("roads" : Str), ("side" : Str), ("found" : Str), ("first" : Str), ("line" : Str), ("bit" : Str), ("here" : Str), ("r" : Str), ("a" : Str), ("b" : Str), ("s" : Str), ("one" : Str), ("other" : Str)], [("frame" : Str), ("lot" : Str)], false, [(113, [6, 7, 8, 9, 10, 11, 12, 13, 14, 15]), (116, [9, 10, 11, 12, 13, 14, 15]), (118, [10, 11, 12, 13, 14, 15]), (120, [14, 15])], b_bits, []⟩
def d__law_both_rows : DefC := ⟨("_law_both_rows" : Str), topS 26, [("frame" : Str), ("one" : Str), ("other" : Str), ("lot" : Str), ("bits" : Str), ("sign" : Str), ("place" : Str), ("bit" : Str)], [("frame" : Str)], false, [(130, [3, 4, 5, 6])], b_both 19 20, []⟩
def d__law_at : DefC := ⟨("_law_at" : Str), topS 27, [("row" : Str), ("x" : Str), ("total" : Str), ("power" : Str), ("number" : Str)], [("row" : Str), ("x" : Str)], false, [(140, [4])], b_lat, []⟩
def d__law_switched : DefC := ⟨("_law_switched" : Str), topS 28, [("frame" : Str), ("sides" : Str), ("a" : Str), ("b" : Str), ("s" : Str)], [("frame" : Str), ("sides" : Str)], false, [], b_sw, []⟩
def d__law_joined : DefC := ⟨("_law_joined" : Str), topS 29, [("frame" : Str), ("r" : Str), ("a" : Str), ("b" : Str), ("s" : Str), ("here" : Str), ("low" : Str), ("high" : Str), ("names" : Str), ("roads" : Str), ("c" : Str), ("x" : Str), ("y" : Str), ("sign" : Str)], [("frame" : Str), ("r" : Str)], false, [], b_jn 23, []⟩
def d__law_readings : DefC := ⟨("_law_readings" : Str), topS 30, [("frame" : Str), ("heights" : Str), ("a" : Str), ("b" : Str), ("s" : Str)], [("frame" : Str), ("heights" : Str)], false, [], b_read, []⟩
def d__law_arrows : DefC := ⟨("_law_arrows" : Str), topS 31, [("frame" : Str), ("heights" : Str), ("readings" : Str), ("x" : Str)], [("frame" : Str), ("heights" : Str)], false, [], b_arrows2 25, []⟩
def d__law_signed_rows : DefC := ⟨("_law_signed_rows" : Str), topS 32, [("n" : Str), ("found" : Str), ("lap" : Str), ("late" : Str), ("row" : Str), ("x" : Str)], [("n" : Str)], false, [(159, [2, 3, 4, 5]), (161, [4, 5]), (162, [5])], b_rows2, []⟩
def d__law_height_arrows : DefC := ⟨("_law_height_arrows" : Str), topS 33, [("frame" : Str), ("found" : Str), ("row" : Str), ("arrows" : Str)], [("frame" : Str)], false, [(169, [2, 3])], b_lha 26 27, [(168, 12)]⟩
def defs : List DefC := [d_does_fit, d_heads_and_sides, d_lot_pieces, d_told_sides, d_unfit_roads, d_piece_marks, d_balanced_count, d_lots_of_roads, d_colour_row, d_row_at, d_readings_of, d_arrows_of_heights, d_signed_rows, d_height_arrows, d_region_count, d__law_pick, d__law_of, d__law_mixed, d__law_frame, d__law_lots, d__law_bits, d__law_both_rows, d__law_at, d__law_switched, d__law_joined, d__law_readings, d__law_arrows, d__law_signed_rows, d__law_height_arrows]
def fns : List (Str × Nat × Nat × Bool) := [(("does_fit" : Str), 0, 2, false), (("heads_and_sides" : Str), 1, 2, false), (("lot_pieces" : Str), 2, 2, false), (("told_sides" : Str), 3, 2, false), (("unfit_roads" : Str), 4, 3, false), (("piece_marks" : Str), 5, 2, false), (("balanced_count" : Str), 6, 2, false), (("lots_of_roads" : Str), 7, 1, false), (("colour_row" : Str), 8, 1, false), (("row_at" : Str), 9, 2, false), (("readings_of" : Str), 10, 2, false), (("arrows_of_heights" : Str), 11, 2, false), (("signed_rows" : Str), 12, 1, false), (("height_arrows" : Str), 13, 1, false), (("region_count" : Str), 14, 1, false), (("_law_pick" : Str), 15, 2, true), (("_law_of" : Str), 16, 2, true), (("_law_mixed" : Str), 17, 2, true), (("_law_frame" : Str), 18, 3, true), (("_law_lots" : Str), 19, 1, false), (("_law_bits" : Str), 20, 2, false), (("_law_both_rows" : Str), 21, 1, false), (("_law_at" : Str), 22, 2, false), (("_law_switched" : Str), 23, 2, false), (("_law_joined" : Str), 24, 2, false), (("_law_readings" : Str), 25, 2, false), (("_law_arrows" : Str), 26, 2, false), (("_law_signed_rows" : Str), 27, 1, false), (("_law_height_arrows" : Str), 28, 1, false)]
def blt : List Str := [("len" : Str), ("abs" : Str), ("int" : Str), ("min" : Str), ("max" : Str), ("sorted" : Str), ("list" : Str), ("tuple" : Str), ("repr" : Str), ("range" : Str)]
def lawN : List Str := [("script" : Str), ("source" : Str), ("lap" : Str), ("frame" : Str), ("kept" : Str), ("known" : Str), ("due" : Str), ("a" : Str), ("b" : Str), ("s" : Str), ("out" : Str), ("less" : Str), ("joined" : Str), ("arrows" : Str)]
def lawT : Tb := ⟨lawN, fns, blt, 1000000, [(176, [2, 3, 4, 5, 6, 7, 8, 9, 10, 11, 12])], [(188, 10037)]⟩
theorem t_does_fit : DefT fns blt 1000000 d_does_fit := ⟨⟨rfl, rfl, rfl, by decide +kernel, rfl, by decide +kernel, by decide +kernel⟩, by kernel_rfl⟩
theorem t_heads_and_sides : DefT fns blt 1000000 d_heads_and_sides := ⟨⟨rfl, rfl, rfl, by decide +kernel, rfl, by decide +kernel, by decide +kernel⟩, by kernel_rfl⟩
theorem t_lot_pieces : DefT fns blt 1000000 d_lot_pieces := ⟨⟨rfl, rfl, rfl, by decide +kernel, rfl, by decide +kernel, by decide +kernel⟩, by kernel_rfl⟩
theorem t_told_sides : DefT fns blt 1000000 d_told_sides := ⟨⟨rfl, rfl, rfl, by decide +kernel, rfl, by decide +kernel, by decide +kernel⟩, by kernel_rfl⟩
theorem t_unfit_roads : DefT fns blt 1000000 d_unfit_roads := ⟨⟨rfl, rfl, rfl, by decide +kernel, rfl, by decide +kernel, by decide +kernel⟩, by kernel_rfl⟩
theorem t_piece_marks : DefT fns blt 1000000 d_piece_marks := ⟨⟨rfl, rfl, rfl, by decide +kernel, rfl, by decide +kernel, by decide +kernel⟩, by kernel_rfl⟩
theorem t_balanced_count : DefT fns blt 1000000 d_balanced_count := ⟨⟨rfl, rfl, rfl, by decide +kernel, rfl, by decide +kernel, by decide +kernel⟩, by kernel_rfl⟩
theorem t_lots_of_roads : DefT fns blt 1000000 d_lots_of_roads := ⟨⟨rfl, rfl, rfl, by decide +kernel, rfl, by decide +kernel, by decide +kernel⟩, by kernel_rfl⟩
theorem t_colour_row : DefT fns blt 1000000 d_colour_row := ⟨⟨rfl, rfl, rfl, by decide +kernel, rfl, by decide +kernel, by decide +kernel⟩, by kernel_rfl⟩
theorem t_row_at : DefT fns blt 1000000 d_row_at := ⟨⟨rfl, rfl, rfl, by decide +kernel, rfl, by decide +kernel, by decide +kernel⟩, by kernel_rfl⟩
theorem t_readings_of : DefT fns blt 1000000 d_readings_of := ⟨⟨rfl, rfl, rfl, by decide +kernel, rfl, by decide +kernel, by decide +kernel⟩, by kernel_rfl⟩
theorem t_arrows_of_heights : DefT fns blt 1000000 d_arrows_of_heights := ⟨⟨rfl, rfl, rfl, by decide +kernel, rfl, by decide +kernel, by decide +kernel⟩, by kernel_rfl⟩
theorem t_signed_rows : DefT fns blt 1000000 d_signed_rows := ⟨⟨rfl, rfl, rfl, by decide +kernel, rfl, by decide +kernel, by decide +kernel⟩, by kernel_rfl⟩
theorem t_height_arrows : DefT fns blt 1000000 d_height_arrows := ⟨⟨rfl, rfl, rfl, by decide +kernel, rfl, by decide +kernel, by decide +kernel⟩, by kernel_rfl⟩
theorem t_region_count : DefT fns blt 1000000 d_region_count := ⟨⟨rfl, rfl, rfl, by decide +kernel, rfl, by decide +kernel, by decide +kernel⟩, by kernel_rfl⟩
theorem t__law_pick : DefT fns blt 1000000 d__law_pick := ⟨⟨rfl, rfl, rfl, by decide +kernel, rfl, by decide +kernel, by decide +kernel⟩, by kernel_rfl⟩
theorem t__law_of : DefT fns blt 1000000 d__law_of := ⟨⟨rfl, rfl, rfl, by decide +kernel, rfl, by decide +kernel, by decide +kernel⟩, by kernel_rfl⟩
theorem t__law_mixed : DefT fns blt 1000000 d__law_mixed := ⟨⟨rfl, rfl, rfl, by decide +kernel, rfl, by decide +kernel, by decide +kernel⟩, by kernel_rfl⟩
theorem t__law_frame : DefT fns blt 1000000 d__law_frame := ⟨⟨rfl, rfl, rfl, by decide +kernel, rfl, by decide +kernel, by decide +kernel⟩, by kernel_rfl⟩
theorem t__law_lots : DefT fns blt 1000000 d__law_lots := ⟨⟨rfl, rfl, rfl, by decide +kernel, rfl, by decide +kernel, by decide +kernel⟩, by kernel_rfl⟩
theorem t__law_bits : DefT fns blt 1000000 d__law_bits := ⟨⟨rfl, rfl, rfl, by decide +kernel, rfl, by decide +kernel, by decide +kernel⟩, by kernel_rfl⟩
theorem t__law_both_rows : DefT fns blt 1000000 d__law_both_rows := ⟨⟨rfl, rfl, rfl, by decide +kernel, rfl, by decide +kernel, by decide +kernel⟩, by kernel_rfl⟩
theorem t__law_at : DefT fns blt 1000000 d__law_at := ⟨⟨rfl, rfl, rfl, by decide +kernel, rfl, by decide +kernel, by decide +kernel⟩, by kernel_rfl⟩
theorem t__law_switched : DefT fns blt 1000000 d__law_switched := ⟨⟨rfl, rfl, rfl, by decide +kernel, rfl, by decide +kernel, by decide +kernel⟩, by kernel_rfl⟩
theorem t__law_joined : DefT fns blt 1000000 d__law_joined := ⟨⟨rfl, rfl, rfl, by decide +kernel, rfl, by decide +kernel, by decide +kernel⟩, by kernel_rfl⟩
theorem t__law_readings : DefT fns blt 1000000 d__law_readings := ⟨⟨rfl, rfl, rfl, by decide +kernel, rfl, by decide +kernel, by decide +kernel⟩, by kernel_rfl⟩
theorem t__law_arrows : DefT fns blt 1000000 d__law_arrows := ⟨⟨rfl, rfl, rfl, by decide +kernel, rfl, by decide +kernel, by decide +kernel⟩, by kernel_rfl⟩
theorem t__law_signed_rows : DefT fns blt 1000000 d__law_signed_rows := ⟨⟨rfl, rfl, rfl, by decide +kernel, rfl, by decide +kernel, by decide +kernel⟩, by kernel_rfl⟩
theorem t__law_height_arrows : DefT fns blt 1000000 d__law_height_arrows := ⟨⟨rfl, rfl, rfl, by decide +kernel, rfl, by decide +kernel, by decide +kernel⟩, by kernel_rfl⟩
theorem law_c : cpSs (cpS lawT (defScope (topS 34)) 24) ((defBody (topS 34)).drop 1) = some b_62 := by kernel_rfl
theorem law_S : FnScope lawN [("script" : Str)] (defScope (topS 34)) := ⟨rfl, rfl, rfl, by decide +kernel, rfl, by decide +kernel, by decide +kernel⟩
def noPrim : Nat → Fn := fun _ => .pure fun _ => none
theorem tab : ∀ x i n b, fns.lookup x = some (i, n, b) → ∃ d, defs[i]? = some d ∧ d.x = x ∧ d.ps.length = n ∧ d.src = b := tab_of (by decide +kernel)
theorem texts : ∀ d ∈ defs, DefT fns blt 1000000 d := by
  intro d hd
  simp only [defs, List.mem_cons, List.not_mem_nil, or_false] at hd
  rcases hd with rfl | rfl | rfl | rfl | rfl | rfl | rfl | rfl | rfl | rfl | rfl | rfl | rfl | rfl | rfl | rfl | rfl | rfl | rfl | rfl | rfl | rfl | rfl | rfl | rfl | rfl | rfl | rfl | rfl
  · exact t_does_fit
  · exact t_heads_and_sides
  · exact t_lot_pieces
  · exact t_told_sides
  · exact t_unfit_roads
  · exact t_piece_marks
  · exact t_balanced_count
  · exact t_lots_of_roads
  · exact t_colour_row
  · exact t_row_at
  · exact t_readings_of
  · exact t_arrows_of_heights
  · exact t_signed_rows
  · exact t_height_arrows
  · exact t_region_count
  · exact t__law_pick
  · exact t__law_of
  · exact t__law_mixed
  · exact t__law_frame
  · exact t__law_lots
  · exact t__law_bits
  · exact t__law_both_rows
  · exact t__law_at
  · exact t__law_switched
  · exact t__law_joined
  · exact t__law_readings
  · exact t__law_arrows
  · exact t__law_signed_rows
  · exact t__law_height_arrows
theorem isSrc : IsSource (defBody (topS 19)) := by
  show IsSource (match topS 19 with | .FunctionDef _ _ b _ _ _ _ _ _ _ => b | _ => [])
  exact .mk
theorem isLaw : IsLaw (defBody (topS 34)) ((defBody (topS 34)).drop 1) := .mk
theorem f_does_fit (k : Nat) : Gam noPrim defs (k + 1) 0 = .pure (runP (Gam noPrim defs k) 3 (b_fit)) := rfl
theorem f_heads_and_sides (k : Nat) : Gam noPrim defs (k + 1) 1 = .pure (runP (Gam noPrim defs k) 11 (b_has)) := rfl
theorem f_lot_pieces (k : Nat) : Gam noPrim defs (k + 1) 2 = .pure (runP (Gam noPrim defs k) 3 (b_pieces 1)) := rfl
theorem f_told_sides (k : Nat) : Gam noPrim defs (k + 1) 3 = .pure (runP (Gam noPrim defs k) 0 (b_told 1)) := rfl
theorem f_unfit_roads (k : Nat) : Gam noPrim defs (k + 1) 4 = .pure (runP (Gam noPrim defs k) 1 (b_unfit 0)) := rfl
theorem f_piece_marks (k : Nat) : Gam noPrim defs (k + 1) 5 = .pure (runP (Gam noPrim defs k) 5 (b_pmarks 2 3 4)) := rfl
theorem f_balanced_count (k : Nat) : Gam noPrim defs (k + 1) 6 = .pure (runP (Gam noPrim defs k) 2 (b_bal 5)) := rfl
theorem f_lots_of_roads (k : Nat) : Gam noPrim defs (k + 1) 7 = .pure (runP (Gam noPrim defs k) 3 (b_lots)) := rfl
theorem f_colour_row (k : Nat) : Gam noPrim defs (k + 1) 8 = .pure (runP (Gam noPrim defs k) 2 (b_colour 7 6)) := rfl
theorem f_row_at (k : Nat) : Gam noPrim defs (k + 1) 9 = .pure (runP (Gam noPrim defs k) 2 (b_rowat)) := rfl
theorem f_readings_of (k : Nat) : Gam noPrim defs (k + 1) 10 = .pure (runP (Gam noPrim defs k) 3 (b_read)) := rfl
theorem f_arrows_of_heights (k : Nat) : Gam noPrim defs (k + 1) 11 = .pure (runP (Gam noPrim defs k) 2 (b_arrows 10)) := rfl
theorem f_signed_rows (k : Nat) : Gam noPrim defs (k + 1) 12 = .pure (runP (Gam noPrim defs k) 9 (b_srows)) := rfl
theorem f_height_arrows (k : Nat) : Gam noPrim defs (k + 1) 13 = .pure (runP (Gam noPrim defs k) 3 (b_ha 11 12)) := rfl
theorem f_region_count (k : Nat) : Gam noPrim defs (k + 1) 14 = .pure (runP (Gam noPrim defs k) 0 (b_region 9 8)) := rfl
theorem f__law_pick (k : Nat) : Gam noPrim defs (k + 1) 15 = .srcd (runS (Gam noPrim defs k) 2 (b_pick)) := rfl
theorem f__law_of (k : Nat) : Gam noPrim defs (k + 1) 16 = .srcd (runS (Gam noPrim defs k) 0 (b_of 15)) := rfl
theorem f__law_mixed (k : Nat) : Gam noPrim defs (k + 1) 17 = .srcd (runS (Gam noPrim defs k) 2 (b_mixed 15)) := rfl
theorem f__law_frame (k : Nat) : Gam noPrim defs (k + 1) 18 = .srcd (runS (Gam noPrim defs k) 7 (b_frame 15 16 17)) := rfl
theorem f__law_lots (k : Nat) : Gam noPrim defs (k + 1) 19 = .pure (runP (Gam noPrim defs k) 3 (b_lots2)) := rfl
theorem f__law_bits (k : Nat) : Gam noPrim defs (k + 1) 20 = .pure (runP (Gam noPrim defs k) 14 (b_bits)) := rfl
theorem f__law_both_rows (k : Nat) : Gam noPrim defs (k + 1) 21 = .pure (runP (Gam noPrim defs k) 7 (b_both 19 20)) := rfl
theorem f__law_at (k : Nat) : Gam noPrim defs (k + 1) 22 = .pure (runP (Gam noPrim defs k) 3 (b_lat)) := rfl
theorem f__law_switched (k : Nat) : Gam noPrim defs (k + 1) 23 = .pure (runP (Gam noPrim defs k) 3 (b_sw)) := rfl
theorem f__law_joined (k : Nat) : Gam noPrim defs (k + 1) 24 = .pure (runP (Gam noPrim defs k) 12 (b_jn 23)) := rfl
theorem f__law_readings (k : Nat) : Gam noPrim defs (k + 1) 25 = .pure (runP (Gam noPrim defs k) 3 (b_read)) := rfl
theorem f__law_arrows (k : Nat) : Gam noPrim defs (k + 1) 26 = .pure (runP (Gam noPrim defs k) 2 (b_arrows2 25)) := rfl
theorem f__law_signed_rows (k : Nat) : Gam noPrim defs (k + 1) 27 = .pure (runP (Gam noPrim defs k) 5 (b_rows2)) := rfl
theorem f__law_height_arrows (k : Nat) : Gam noPrim defs (k + 1) 28 = .pure (runP (Gam noPrim defs k) 3 (b_lha 26 27)) := rfl
end Pf.K62

set_option maxRecDepth 100000
namespace Pf
open PySem PySem.Spec PyProof.Rows
open L2 (FnScope defBody defScope defArgs Fun Binds fun_mk)
theorem K62.fin (LAW : ∀ s : Src, ∃ st', execs (Gam K62.noPrim K62.defs 6) b_62 ⟨.un :: .src :: List.replicate 12 .un, some s⟩ = some (.rt (.dat (.bool true)) st')) {P : Program} {w : World} {K : PySem.W.Frag} {h : Heap} {mg : Str → Option Value} {fa : Addr} (X : K.In h) (G : h.Ns mainGlobals mg) (D : ∀ d ∈ K62.defs, DefAt K mg d)
    (FL : ∃ fd, Fun K "law" "law" (K62.topS 34) fa fd ∧ ∀ (s : Shared) (v : Value), BindsTo s fd ⟨[v], []⟩ [("script", v)])
    (FS : ∃ f fd, Fun K "_law_source" "_law_source" (K62.topS 19) f fd ∧ mg "_law_source" = some (.ref f) ∧ Binds K fd ["script"] [])
    (z : ∀ x ∈ K62.blt, mg x = none) :
    ∃ fd : FuncData, (∀ (s : Shared) (u : Value), BindsTo s fd ⟨[u], []⟩ [("script", u)]) ∧ ∀ base : Heap, K.In base → base.Ns mainGlobals mg → FnG P w K mg base 7 fa fd ["script"] (spLaw K) := by
  obtain ⟨fd, F, bF⟩ := FL
  obtain ⟨fs, fds, S, ms, bs⟩ := FS
  refine ⟨fd, bF, fun base _ _ => ?_⟩
  have T : Text P w K mg base K62.noPrim K62.defs K62.fns K62.blt 1000000 := ⟨D, K62.texts, fun x i n b e => .inl (K62.tab x i n b e), z⟩
  have L := lev_tb (T' := K62.lawT) (text_lev T 6 K62.d_does_fit) rfl rfl
  have Fs := ok_source (P := P) (w := w) (mg := mg) (base := base) S K62.isSrc ⟨rfl, rfl, rfl, by decide +kernel, rfl, by decide +kernel, by decide +kernel⟩ rfl (z "int" (by decide +kernel)) (z "abs" (by decide +kernel))
  exact ok_law (k := 5) F K62.law_S rfl K62.isLaw rfl rfl (by decide +kernel) (by decide +kernel) (by decide +kernel) L K62.law_c Fs ms S.kp bs LAW
end Pf

namespace Pf.K62
open PySem Pf
theorem g__law_pick (k : Nat) : HasPick (Gam noPrim defs (k + 1)) 15 := hasPick (f__law_pick (k + 0)) 
theorem g__law_of (k : Nat) : HasOf (Gam noPrim defs (k + 2)) 16 := hasOf (f__law_of (k + 1)) (g__law_pick (k + 0))
theorem g__law_mixed (k : Nat) : HasMixed (Gam noPrim defs (k + 2)) 17 := hasMixed (f__law_mixed (k + 1)) (g__law_pick (k + 0))
theorem g__law_frame (k : Nat) : HasFrame (Gam noPrim defs (k + 3)) 18 := hasFrame (f__law_frame (k + 2)) (g__law_pick (k + 1)) (g__law_of (k + 0)) (g__law_mixed (k + 0))
theorem g__law_readings (k : Nat) : HasRead (Gam noPrim defs (k + 1)) 25 := hasRead (f__law_readings (k + 0)) 
theorem g__law_arrows (k : Nat) : HasArr (Gam noPrim defs (k + 2)) 26 := hasArr2 (f__law_arrows (k + 1)) (g__law_readings (k + 0))
theorem g__law_signed_rows (k : Nat) : HasSRows (Gam noPrim defs (k + 1)) 27 := hasSRows2 (f__law_signed_rows (k + 0)) 
theorem g__law_height_arrows (k : Nat) : HasLHA (Gam noPrim defs (k + 3)) 28 := hasLHA (f__law_height_arrows (k + 2)) (g__law_arrows (k + 0)) (g__law_signed_rows (k + 1))
theorem g_readings_of (k : Nat) : HasRead (Gam noPrim defs (k + 1)) 10 := hasRead (f_readings_of (k + 0)) 
theorem g_arrows_of_heights (k : Nat) : HasArr (Gam noPrim defs (k + 2)) 11 := hasArr1 (f_arrows_of_heights (k + 1)) (g_readings_of (k + 0))
theorem g_signed_rows (k : Nat) : HasSRows (Gam noPrim defs (k + 1)) 12 := hasSRows (f_signed_rows (k + 0)) 
theorem g_height_arrows (k : Nat) : HasHA (Gam noPrim defs (k + 3)) 13 := hasHA (f_height_arrows (k + 2)) (g_arrows_of_heights (k + 0)) (g_signed_rows (k + 1))
theorem g__law_lots (k : Nat) : HasLots (Gam noPrim defs (k + 1)) 19 := hasLots2 (f__law_lots (k + 0)) 
theorem g__law_bits (k : Nat) : HasBits (Gam noPrim defs (k + 1)) 20 := hasBits (f__law_bits (k + 0)) 
theorem g__law_both_rows (k : Nat) : HasBoth (Gam noPrim defs (k + 2)) 21 := hasBoth (f__law_both_rows (k + 1)) (g__law_lots (k + 0)) (g__law_bits (k + 0))
theorem g__law_at (k : Nat) : HasLat (Gam noPrim defs (k + 1)) 22 := hasLat (f__law_at (k + 0)) 
theorem g_row_at (k : Nat) : HasRowAt (Gam noPrim defs (k + 1)) 9 := hasRowAt (f_row_at (k + 0)) 
theorem g_lots_of_roads (k : Nat) : HasLots (Gam noPrim defs (k + 1)) 7 := hasLots (f_lots_of_roads (k + 0)) 
theorem g_heads_and_sides (k : Nat) : HasUf (Gam noPrim defs (k + 1)) 1 := hasUf (f_heads_and_sides (k + 0)) 
theorem g_lot_pieces (k : Nat) : HasPieces (Gam noPrim defs (k + 2)) 2 := hasPieces (f_lot_pieces (k + 1)) (g_heads_and_sides (k + 0))
theorem g_told_sides (k : Nat) : HasTold (Gam noPrim defs (k + 2)) 3 := hasTold (f_told_sides (k + 1)) (g_heads_and_sides (k + 0))
theorem g_does_fit (k : Nat) : HasFit (Gam noPrim defs (k + 1)) 0 := hasFit (f_does_fit (k + 0)) 
theorem g_unfit_roads (k : Nat) : HasUnfit (Gam noPrim defs (k + 2)) 4 := hasUnfit (f_unfit_roads (k + 1)) (g_does_fit (k + 0))
theorem g_piece_marks (k : Nat) : HasPm (Gam noPrim defs (k + 3)) 5 := hasPm (f_piece_marks (k + 2)) (g_lot_pieces (k + 0)) (g_told_sides (k + 0)) (g_unfit_roads (k + 0))
theorem g_balanced_count (k : Nat) : HasBal (Gam noPrim defs (k + 4)) 6 := hasBal (f_balanced_count (k + 3)) (g_piece_marks (k + 0))
theorem g_colour_row (k : Nat) : HasColour (Gam noPrim defs (k + 5)) 8 := hasColour (f_colour_row (k + 4)) (g_lots_of_roads (k + 3)) (g_balanced_count (k + 0))
theorem g_region_count (k : Nat) : HasRegion (Gam noPrim defs (k + 6)) 14 := hasRegion (f_region_count (k + 5)) (g_row_at (k + 4)) (g_colour_row (k + 0))
theorem g__law_switched (k : Nat) : HasSw (Gam noPrim defs (k + 1)) 23 := hasSw (f__law_switched (k + 0)) 
theorem g__law_joined (k : Nat) : HasJn (Gam noPrim defs (k + 2)) 24 := hasJn (f__law_joined (k + 1)) (g__law_switched (k + 0))
theorem has (k : Nat) : Has62 (Gam noPrim defs (k + 6)) := ⟨g__law_frame (k + 3), g__law_height_arrows (k + 3), g_height_arrows (k + 3), g__law_both_rows (k + 4), g__law_at (k + 5), g_region_count (k + 0), g_row_at (k + 5), g_colour_row (k + 1), g__law_joined (k + 4)⟩
theorem lawOk (s : Src) : ∃ st', execs (Gam noPrim defs 6) b_62 ⟨.un :: .src :: List.replicate 12 .un, some s⟩ = some (.rt (.dat (.bool true)) st') := law62 (has 0) s
end Pf.K62

set_option maxRecDepth 100000
open PySem PySem.W PyProof.Rows
set_option maxHeartbeats 0 in
theorem PySem.Challenge.cw_signedframes_k62_whole_how_many_arrows_holds : PySem.Challenge.rw_signedframes_k62_whole_how_many_arrows.Holds := by
  w_on; o_law; k_head; (case hw => w_witness2)
  k_fill
  refine Pf.walk_ofG (l := PySem.Challenge.rw_signedframes_k62_whole_how_many_arrows) (n := 63) (k := 7) (x := "script") rfl (by decide) rfl ⟨rfl, by decide, by decide⟩ (fun w h Y => PySem.W.kIn_of Y) ?F
  case F =>
    intro w mg fa h KX G hmg
    have D : Pf.AtAll Pf.K62.defs KX mg := by
      intro d hd
      simp only [Pf.K62.defs, List.mem_cons, List.not_mem_nil, or_false] at hd
      rcases hd with rfl | rfl | rfl | rfl | rfl | rfl | rfl | rfl | rfl | rfl | rfl | rfl | rfl | rfl | rfl | rfl | rfl | rfl | rfl | rfl | rfl | rfl | rfl | rfl | rfl | rfl | rfl | rfl | rfl
      all_goals (refine' Pf.defAt_mk KX G ?a ?l ?c ?k ?b; (case a => k_is); (case l => k_is); (case c => k_is); (case k => k_is); (case b => first | exact fun _ _ _ _ _ _ us hl => (match us, hl with | [_], _ => rfl) | exact fun _ _ _ _ _ _ us hl => (match us, hl with | [_, _], _ => rfl) | exact fun _ _ _ _ _ _ us hl => (match us, hl with | [_, _, _], _ => rfl)))
    have FL : ∃ fd, L2.Fun (L2.KOf KX) "law" "law" (Pf.K62.topS 34) fa fd ∧ ∀ (s : Shared) (v : Value), BindsTo s fd ⟨[v], []⟩ [("script", v)] := by
      show Pf.LawAt (Pf.K62.topS 34) KX fa
      refine' Pf.law_mk KX G hmg ?a ?l ?c ?k ?b; (case a => k_is); (case l => k_is); (case c => k_is); (case k => k_is); (case b => exact fun _ _ _ _ _ _ us hl => (match us, hl with | [_], _ => rfl))
    have FS : ∃ f fd, L2.Fun (L2.KOf KX) "_law_source" "_law_source" (Pf.K62.topS 19) f fd ∧ mg "_law_source" = some (.ref f) ∧ L2.Binds (L2.KOf KX) fd ["script"] [] := by
      show Pf.SrcDef (Pf.K62.topS 19) KX mg
      refine' Pf.src_mk KX G ?a ?l ?c ?k ?b; (case a => k_is); (case l => k_is); (case c => k_is); (case k => k_is); (case b => exact fun _ _ _ _ _ _ us hl => (match us, hl with | [_], _ => rfl))
    refine Pf.K62.fin Pf.K62.lawOk KX G D FL FS ?z
    intro x hx
    simp only [Pf.K62.blt, List.mem_cons, List.not_mem_nil, or_false] at hx
    rcases hx with rfl | rfl | rfl | rfl | rfl | rfl | rfl | rfl | rfl | rfl <;> (refine PySem.W.mg_none_of KX G ?_; k_is)
