import PyProof.Rows.All
import Wide.All
import OpenK.AllK
import Wide.FinOn
import HandS.HotCalls
import HandS.Iter
import HandS.Comp
import HandS.Walk
import PyProof.ZipIter
import PyProof.EnumIter
import KE.KExcIs
import HandS.Lambda
import HandS.ExcField
import HandS.Defaults
import HandS.TupSets
import HandS.ExcInit
import HandS.ExcInitHot
import HandS.ExcSuper
import KE.KExcSuper
import HandS.HeadWalk
import HandS.ForMost
import HandS.ForExc
import HandS.Zip
import HandS.TupAny
import HandS.Deep
import HandS.IsInst
import KE.KStateDown
import HandS.HeadHook2
import HandS.HeadHook1
import HandS.HeadEnd
import HandS.Head2
import HandS.Head1
import HandS.Head0
import HandS.WordsExc
import HandS.SortInts
import KE.GoesMore
import HandS.Style
import HandS.TupLe
import HandS.Text
import HandS.HeadHook4
import PySem.Challenge.RW_twoapart_k09_whole_ties_struck_and_put
set_option Elab.async false
set_option linter.all false
set_option maxRecDepth 100000
section
/-! Where an error is in hand: the end of a list's iterator, of zip, of a tuple that is unpacked. -/
namespace Tw
open PySem PySem.Spec PyProof.Rows L2 HotX
section
variable {prog : Program} {w : World} {A : Around} {E : Value → Shared → Prop} {s : Shared}
/-- StopIteration is made and raised while x1 is in hand -/
theorem stop_hot {α : Type} {x1 : Addr} {Q : α → Shared → Prop} (hot : HotAt A x1 s.heap)
    (hE : ∀ h' e, (∀ b o, s.heap.get? b = some o → h'.get? b = some o) → (∃ o, h'.get? e = some o ∧ o.cls = .type "StopIteration") → E (.ref e) { s with heap := h' }) :
    wpAny (model prog w) A (newExc (.type "StopIteration") [] >>= fun e => (raiseNew e : Sem α)) Q E s := by
  obtain ⟨hh, o1, vs1, h1, d1, c1⟩ := hot
  refine wpAny_bind ?_
  simp only [newExc, newTuple]
  refine wpAny_bind (wpAny_newObj_type ?_ (by size_fits))
  refine wpAny_bind (m := firstArgMember _ _) (wpAny_of_eq (a := Value.none) (by first | rfl | (simp only [firstArgMember]; rfl)) ?_)
  refine wpAny_newObj_type ?_ (by size_fits)
  have k1 := Heap.get?_push_of_some (h := s.heap) { cls := Value.type "tuple", data := Data.seq ([] : List Value).toArray } h1
  refine raiseNew_hot (x1 := x1) ⟨hh, o1, vs1, Heap.get?_push_of_some _ (Heap.get?_push_of_some _ h1), d1, c1⟩ (Nat.ne_of_lt (Heap.lt_size (Heap.get?_push_of_some _ h1))) (Heap.get?_push_size _ rfl) rfl
    (by first | (simp; done) | (simp; omega) | (simp only [Array.size_append]; simp; omega)) ?_
  refine hE _ _ (fun b o e => ?_) ⟨_, Heap.get?_update_self _ (Heap.get?_push_size _ rfl) rfl, rfl⟩
  have z := Heap.get?_push_of_some (h := s.heap) { cls := Value.type "tuple", data := Data.seq ([] : List Value).toArray } e
  rw [Heap.get?_update_other _ _ (Nat.ne_of_gt (Heap.lt_size z))]
  exact Heap.get?_push_of_some _ z
theorem HotAt.up {x1 it : Addr} {h h' : Heap} (hot : HotAt A x1 h) (hne : x1 ≠ it) (k : Heap.ExtBut it h h') : HotAt A x1 h' := by
  obtain ⟨hh, o1, vs1, h1, d1, c1⟩ := hot
  exact ⟨hh, o1, vs1, k _ _ hne h1, d1, c1⟩
theorem HotAt.in1 {x1 : Addr} {h : Heap} (hot : HotAt A x1 h) : HotAt A.in1 x1 h := hot
/-- the next of a list's iterator, behind the last -/
theorem nextOf_list_hot {it l x1 : Addr} {i : Nat} {items : Array Value} {Q : Value → Shared → Prop} (hot : HotAt A x1 s.heap) (hne : x1 ≠ it) (hit : s.heap.IsListIter it l i) (hl : s.heap.IsList l items) (hx : items[i]? = none)
    (hE : ∀ h' e, Heap.ExtBut it s.heap h' → (∃ o, h'.get? e = some o ∧ o.cls = .type "StopIteration") → E (.ref e) { s with heap := h' }) :
    wpAny (model prog w) A (Builtin.SmallTypes.nextOf (.ref it)) Q E s := by
  obtain ⟨o, ho, hc, hd⟩ := id hit
  obtain ⟨ol, hol, _, nl, hdl⟩ := hl
  unfold Builtin.SmallTypes.nextOf
  refine wpAny_bind (wpAny_callSpecial?_slot (name := Str.ofString "__next__") hit.typeIs slot_listiter_next (wpAny_call_entry slot_listiter_next hit.typeIs entry_listiter_next ?_ (args_listiter_next _)))
  show wpAny _ _ (field (.ref it) 0 >>= _) _ _ s
  refine wpAny_bind (wpAny_field ho hd (x := .ref l) rfl ?_)
  show wpAny _ _ (if (Value.ref l == Value.none) = true then _ else _) _ _ s
  rw [if_neg (show ¬ ((Value.ref l == Value.none) = true) from Bool.false_ne_true)]
  show wpAny _ _ (field (.ref it) 1 >>= _) _ _ s
  refine wpAny_bind (wpAny_field ho hd (x := .int i 0) rfl ?_)
  show wpAny _ _ (seqItems? (.ref l) >>= _) _ _ s
  refine wpAny_bind (wpAny_seqItems hol hdl ?_)
  simp only [Int.toNat_natCast, hx]
  refine wpAny_bind (wpAny_rule (wpAny_bind (wpAny_setField ho hd (by simp) ?_)))
  show wpAny _ _ (newExc (.type "StopIteration") [] >>= _) _ _ _
  have sb : Heap.SameBut it s.heap (s.heap.update it (Obj.mapFields (·.setIfInBounds 0 .none))) := Heap.SameBut.update ..
  exact stop_hot (HotAt.up (A := A) hot hne sb.extBut) fun h' e k ho => hE _ _ (fun b u nb q => k b u (sb.extBut b u nb q)) ho
theorem zip_next_end_hot {z TI TO i1 i2 l1 l2 x1 : Addr} {k1 k2 : Nat} {xs ys : Array Value} {a b : Value} {Q : Fin → Shared → Prop} (hot : HotAt A x1 s.heap) (n1 : x1 ≠ z) (n2 : x1 ≠ TO) (n3 : x1 ≠ i1) (n4 : x1 ≠ i2) (D : ZipApart z TI TO i1 i2 l1 l2)
    (hz : IsZip s.heap z TI TO .none) (hTI : IsPair s.heap TI (.ref i1) (.ref i2)) (hTO : IsPair s.heap TO a b) (h1 : s.heap.IsListIter i1 l1 k1) (h2 : s.heap.IsListIter i2 l2 k2) (hl1 : s.heap.IsList l1 xs) (hl2 : s.heap.IsList l2 ys) (hend : xs[k1]? = none ∨ ys[k2]? = none)
    (hE : ∀ h' e, (∀ c o, c ≠ z → c ≠ TO → c ≠ i1 → c ≠ i2 → s.heap.get? c = some o → h'.get? c = some o) → (∃ o, h'.get? e = some o ∧ o.cls = .type "StopIteration") → E (.ref e) { s with heap := h' }) :
    wpAny (model prog w) A (Builtin.«zip.__next__» ⟨[.ref z], []⟩) Q E s := by
  show wpAny _ _ (field (.ref z) 2 >>= _) _ _ _
  refine wpAny_bind (wpAny_field hz rfl (x := .bool false) rfl ?_)
  show wpAny _ _ (field (.ref z) 3 >>= _) _ _ _
  refine wpAny_bind (wpAny_field hz rfl (x := .ref TI) rfl (wpAny_bind (wpAny_seqItems hTI rfl ?_)))
  show wpAny _ _ (Builtin.SmallTypes.ownedTupleIsFree (.ref z) >>= _) _ _ _
  refine wpAny_bind ?_
  unfold Builtin.SmallTypes.ownedTupleIsFree
  refine wpAny_bind (wpAny_field hz rfl (x := .none) rfl (wpAny_pure ?_))
  simp only [if_true]
  refine wpAny_bind (wpAny_rule (wpAny_bind (wpAny_field hz rfl (x := .ref TO) rfl (wpAny_bind (wpAny_setField_rec hz (by simp) fun g1 z1 s1 => ?_)))))
  have z1 : IsZip g1 z TI TO .ellipsis := z1
  have hot1 := HotAt.up hot n1 s1.extBut
  refine wpAny_bind ?_
  simp only [List.zipIdx_cons, List.zipIdx_nil, List.forIn_cons, List.forIn_nil]
  refine wpAny_bind (wpAny_bind (wpAny_onRaise ?_))
  show wpAny _ _ (Builtin.SmallTypes.nextOf (.ref i1) >>= _) _ _ _
  cases hx : xs[k1]? with
  | none =>
    refine wpAny_bind (nextOf_list_hot hot1 n3 (h1.extBut s1.extBut D.i1z) (hl1.extBut s1.extBut D.l1z) hx fun g2 e s2 he => ?_)
    obtain ⟨oe, hoe, hce⟩ := he
    have z2 : IsZip g2 z TI TO .ellipsis := s2 _ _ D.i1z.symm z1
    have hez : e ≠ z := fun q => by rw [q, z2] at hoe; cases hoe; simp at hce
    exact wpAny_setField_rec z2 (by simp) fun g3 _ s3 => hE g3 e (fun c o c1 _ c3 _ q => s3.extBut _ _ c1 (s2 _ _ c3 (s1.extBut _ _ c1 q))) ⟨oe, s3.extBut _ _ hez hoe, hce⟩
  | some x =>
    have hy : ys[k2]? = none := hend.elim (fun q => by rw [hx] at q; cases q) id
    refine wpAny_bind (wpAny_nextOf_list_item (h1.extBut s1.extBut D.i1z) (hl1.extBut s1.extBut D.l1z) hx fun g2 q1 s2 => wpAny_pure ?_)
    have t2 : IsPair g2 TO a b := s2.extBut _ _ D.TOi1 (s1.extBut _ _ D.TOz hTO)
    refine wpAny_bind (wpAny_seqItems t2 rfl (wpAny_bind (wpAny_updateSeq_pair t2 fun g3 t3 s3 => wpAny_bind (wpAny_letGo (wpAny_pure (wpAny_bind (wpAny_bind (wpAny_onRaise ?_))))))))
    show wpAny _ _ (Builtin.SmallTypes.nextOf (.ref i2) >>= _) _ _ _
    refine wpAny_bind (nextOf_list_hot (HotAt.up (HotAt.up hot1 n3 s2.extBut) n2 s3.extBut) n4 (((h2.extBut s1.extBut D.i2z).extBut s2.extBut D.i12.symm).extBut s3.extBut D.TOi2.symm) (((hl2.extBut s1.extBut D.l2z).extBut s2.extBut D.l2i1).extBut s3.extBut D.l2TO) hy fun g4 e s4 he => ?_)
    obtain ⟨oe, hoe, hce⟩ := he
    have z4 : IsZip g4 z TI TO .ellipsis := s4 _ _ D.i2z.symm (s3.extBut _ _ D.TOz.symm (s2.extBut _ _ D.i1z.symm z1))
    have hez : e ≠ z := fun q => by rw [q, z4] at hoe; cases hoe; simp at hce
    exact wpAny_setField_rec z4 (by simp) fun g5 _ s5 => hE g5 e (fun c o c1 c2 c3 c4 q => s5.extBut _ _ c1 (s4 _ _ c4 (s3.extBut _ _ c2 (s2.extBut _ _ c3 (s1.extBut _ _ c1 q))))) ⟨oe, s5.extBut _ _ hez hoe, hce⟩
theorem pyNext_zip_hot {z TI TO i1 i2 l1 l2 x1 : Addr} {k1 k2 : Nat} {xs ys : Array Value} {a b : Value} {Q : Option Value → Shared → Prop} (hot : HotAt A x1 s.heap) (n1 : x1 ≠ z) (n2 : x1 ≠ TO) (n3 : x1 ≠ i1) (n4 : x1 ≠ i2) (D : ZipApart z TI TO i1 i2 l1 l2)
    (hz : IsZip s.heap z TI TO .none) (hTI : IsPair s.heap TI (.ref i1) (.ref i2)) (hTO : IsPair s.heap TO a b) (h1 : s.heap.IsListIter i1 l1 k1) (h2 : s.heap.IsListIter i2 l2 k2) (hl1 : s.heap.IsList l1 xs) (hl2 : s.heap.IsList l2 ys) (hend : xs[k1]? = none ∨ ys[k2]? = none)
    (hQ : ∀ h', (∀ c o, c ≠ z → c ≠ TO → c ≠ i1 → c ≠ i2 → s.heap.get? c = some o → h'.get? c = some o) → Q none { s with heap := h' }) : wpAny (model prog w) A (pyNext (.ref z)) Q E s := by
  have hT : s.TypeIs (.ref z) "zip" := ⟨_, hz, rfl⟩
  unfold pyNext
  refine wpAny_bind (wpAny_attempt (wpAny_callSpecial?_slot (name := Str.ofString "__next__") hT F.slot_zip_next
    (wpAny_call_entry F.slot_zip_next hT F.entry_zip_next (zip_next_end_hot (HotAt.in1 hot) n1 n2 n3 n4 D hz hTI hTO h1 h2 hl1 hl2 hend fun h' e hk he => ?_) (F.args_zip_next_1 _))))
  obtain ⟨o, ho, hc⟩ := he
  exact wpAny_bind (wpAny_isInstance (T := "StopIteration") (b := true) ⟨o, ho, hc⟩ isSubtype_stop (wpAny_pure (hQ _ hk)))
/-- the next of a tuple's iterator, behind the last -/
theorem next_tuple_hot {it t x1 : Addr} {i : Nat} {items : Array Value} {Q : Option Value → Shared → Prop} (hot : HotAt A x1 s.heap) (hne : x1 ≠ it) (hit : IsTupIter s.heap it t i) (ht : IsTup s.heap t items) (hx : items[i]? = none)
    (hQ : ∀ h', Heap.ExtBut it s.heap h' → Q none { s with heap := h' }) : wpAny (model prog w) A (pyNext (.ref it)) Q E s := by
  obtain ⟨o, ho, hc, hd⟩ := id hit
  obtain ⟨ol, hol, _, nl, hdl⟩ := ht
  unfold pyNext
  refine wpAny_bind (wpAny_attempt (wpAny_callSpecial?_slot (name := Str.ofString "__next__") hit.typeIs slot_tupleiter_next (wpAny_call_entry slot_tupleiter_next hit.typeIs entry_tupleiter_next ?_ (args_tupleiter_next _))))
  show wpAny _ _ (field (.ref it) 0 >>= _) _ _ s
  refine wpAny_bind (wpAny_field ho hd (x := .ref t) rfl ?_)
  show wpAny _ _ (if (Value.ref t == Value.none) = true then _ else _) _ _ s
  rw [if_neg (show ¬ ((Value.ref t == Value.none) = true) from Bool.false_ne_true)]
  show wpAny _ _ (field (.ref it) 1 >>= _) _ _ s
  refine wpAny_bind (wpAny_field ho hd (x := .int i 0) rfl ?_)
  show wpAny _ _ (seqItems? (.ref t) >>= _) _ _ s
  refine wpAny_bind (wpAny_seqItems hol hdl ?_)
  simp only [Int.toNat_natCast, hx]
  refine wpAny_bind (wpAny_rule (wpAny_bind (wpAny_setField ho hd (by simp) ?_)))
  show wpAny _ _ (newExc (.type "StopIteration") [] >>= _) _ _ _
  have sb : Heap.SameBut it s.heap (s.heap.update it (Obj.mapFields (·.setIfInBounds 0 .none))) := Heap.SameBut.update ..
  refine stop_hot (HotAt.up (A := A) hot hne sb.extBut) fun h' e k he => ?_
  obtain ⟨oe, hoe, hce⟩ := he
  exact wpAny_bind (wpAny_isInstance (T := "StopIteration") (b := true) ⟨oe, hoe, hce⟩ isSubtype_stop (wpAny_pure (hQ _ fun b u nb q => k b u (sb.extBut b u nb q))))
theorem assign_tuple_hot {env : Env} {elts : List Expr} {k : Nat} {pos : Pos} {t x1 : Addr} {items : Array Value} {Q : Unit → Shared → Prop} (hot : HotAt A x1 s.heap) (ht : IsTup s.heap t items) (hn : (assignEach elts env).length = items.size) (hstar : (assignEach elts env).findIdx? (·.1) = none)
    (h : ∀ h', Heap.ExtBut s.heap.objs.size s.heap h' → wpAny (model prog w) A (assignInOrder ((assignEach elts env).map (·.2)) items.toList) Q E { s with heap := h' }) :
    wpAny (model prog w) A (assign (.Tuple elts k pos) env (.ref t)) Q E s := by
  have hx1 : x1 ≠ s.heap.objs.size := by
    obtain ⟨_, o1, _, h1, _⟩ := hot
    exact Nat.ne_of_lt (Heap.lt_size h1)
  have hlt : t ≠ s.heap.objs.size := by obtain ⟨o, ho, _⟩ := ht; exact Nat.ne_of_lt (Heap.lt_size ho)
  rw [assign_Tuple]
  refine wpAny_bind (wpAny_standAt ?_)
  unfold unpack
  rw [hn, hstar]
  refine wpAny_bind (wpAny_holding ?_)
  unfold unpackItems
  refine wpAny_bind ?_
  unfold notIterableAtAll
  refine wpAny_bind (wpAny_specialOf ht.typeIs slot_tuple_iter.lookup (wpAny_pure ?_))
  simp only [Bool.false_eq_true, if_false]
  refine wpAny_bind (wpAny_holding (iter_tuple ht (wpAny_bind (wpAny_holding (draw_tuple hlt items.size 0 _ _ ⟨_, Heap.get?_push_size _ rfl, rfl, rfl⟩ (ht.push _) (by omega) fun g1 it1 s1 => ?_)))))
  have hall : List.take items.size (List.drop 0 items.toList) = items.toList := by rw [List.drop_zero]; exact List.take_of_length_le (by simp)
  rw [hall, if_neg (by simp)]
  have hot1 : HotAt A x1 g1 := by
    obtain ⟨hh, o1, vs1, h1, d1, c1⟩ := hot
    exact ⟨hh, o1, vs1, s1.extBut _ _ hx1 (Heap.get?_push_of_some _ h1), d1, c1⟩
  refine wpAny_bind (wpAny_holding (next_tuple_hot hot1 hx1 it1 ((ht.push _).extBut s1.extBut hlt) (by simp) fun g2 s2 => ?_))
  simp only [Option.isSome_none, Bool.false_eq_true, if_false]
  exact wpAny_pure (h g2 fun b o hb e => s2 b o hb (s1.extBut b o hb (Heap.get?_push_of_some _ e)))
end
end Tw
end
section
/-! Where an error is in hand: a tuple to names, zip walked, a comprehension over it. -/
namespace Tw
open PySem PySem.Spec PyProof.Rows L2 HotX L2H
theorem hot_at {X : Cx} {pins : List (Addr × Obj)} {σ : L2.St} {H : Hp} {s : Shared} {p : Addr × Obj} (hot : Hot1 X.A p) (hp : p ∈ X.pn ++ pins) (I : Inv X pins σ H s) : HotAt X.A p.1 s.heap := by
  obtain ⟨hh, v1, e1, c1⟩ := hot
  exact ⟨hh, p.2, v1, (I.pin p hp).1, e1, c1⟩
theorem pg_tupH {X : Cx} {es : List Expr} {k : Nat} {t : TGs} {n : Nat} {pos : Pos} {p : Addr × Obj} (hot : Hot1 X.A p) (h : PGs X es t) (hn : (assignEach es X.env).length = n) (hst : (assignEach es X.env).findIdx? (·.1) = none)
    {pins : List (Addr × Obj)} {s : Shared} {σ : L2.St} {H : Hp} {v : V} {u : Value} {Q : L2.St → Hp → Prop} (hp : p ∈ X.pn ++ pins) (I : Inv X pins σ H s) (r : RelV v u) (hw : gTup X.K n t v σ H Q) :
    wpAny (model X.prog X.w) X.A (assign (.Tuple es k pos) X.env u) (fun _ s' => ∃ σ' H', Inv X pins σ' H' s' ∧ Q σ' H') X.xe s := by
  obtain ⟨a, xs, e1, hq, hl, hw⟩ := hw
  subst e1
  cases r
  obtain ⟨its, rv, ht, hz⟩ := I.tuple hq
  refine assign_tuple_hot (hot_at hot hp I) ht (by simp [hn, ← hl, rv.length]) hst fun h' hx => ?_
  exact h.run pins _ σ H xs _ Q (I.kept (t' := s.toks) fun b o e => hx b o (Nat.ne_of_lt (Heap.lt_size e)) e) (by simpa using rv) hw
/-- zip's own objects at the i-th turn -/
def ZipSt (z TI TO i1 i2 a b : Addr) (i : Nat) (h : Heap) : Prop := IsZip h z TI TO .none ∧ IsPair h TI (.ref i1) (.ref i2) ∧ (∃ x y, IsPair h TO x y) ∧ h.IsListIter i1 a i ∧ h.IsListIter i2 b i
section
variable {z TI TO i1 i2 a b : Addr} {i : Nat} {h h' : Heap}
theorem zipSt_obj (st : ZipSt z TI TO i1 i2 a b i h) : ∀ c ∈ [z, TI, TO, i1, i2], ∃ o, h.get? c = some o ∧ ∀ v, o.data ≠ .cell v := fun c hc => by
  obtain ⟨hz, hTI, ⟨x, y, hTO⟩, ⟨o1, e1, _, d1⟩, ⟨o2, e2, _, d2⟩⟩ := st
  rcases (show c = z ∨ c = TI ∨ c = TO ∨ c = i1 ∨ c = i2 by simpa using hc) with q | q | q | q | q <;> rw [q]
  · exact ⟨_, hz, fun v q => nomatch q⟩
  · exact ⟨_, hTI, fun v q => nomatch q⟩
  · exact ⟨_, hTO, fun v q => nomatch q⟩
  · exact ⟨o1, e1, fun v q => by rw [d1] at q; cases q⟩
  · exact ⟨o2, e2, fun v q => by rw [d2] at q; cases q⟩
theorem zipSt_keep (st : ZipSt z TI TO i1 i2 a b i h) (k : ∀ c ∈ [z, TI, TO, i1, i2], ∀ o, h.get? c = some o → h'.get? c = some o) : ZipSt z TI TO i1 i2 a b i h' := by
  obtain ⟨hz, hTI, ⟨x, y, hTO⟩, h1, h2⟩ := st
  exact ⟨k z (by simp) _ hz, k TI (by simp) _ hTI, ⟨x, y, k TO (by simp) _ hTO⟩, h1.at fun o q => k i1 (by simp) o q, h2.at fun o q => k i2 (by simp) o q⟩
theorem zip_in {c : Addr} (hc : c ∈ [z, TI, TO, i1, i2]) (f1 : c ≠ z) (f2 : c ≠ TO) (f3 : c ≠ i1) (f4 : c ≠ i2) : c = TI := by
  rcases (show c = z ∨ c = TI ∨ c = TO ∨ c = i1 ∨ c = i2 by simpa using hc) with q | q | q | q | q
  · exact (f1 q).elim
  · exact q
  · exact (f2 q).elim
  · exact (f3 q).elim
  · exact (f4 q).elim
end
section
variable {X : Cx} {pins : List (Addr × Obj)} {σ : L2.St} {H : Hp} {s : Shared} {E : Value → Shared → Prop} {z TI TO i1 i2 a b : Addr} {i : Nat}
/-- the next pair -/
theorem zip_go {elts : List Expr} {kk : Nat} {tpos : Pos} {xs ys : List V} {x y : V} (D : ZipApart z TI TO i1 i2 a b) (I : Inv X pins σ H s) (hf : ∀ c ∈ [z, TI, TO, i1, i2], FpOk X pins H c) (st : ZipSt z TI TO i1 i2 a b i s.heap) (hqx : SqL X.K H a xs) (hqy : SqL X.K H b ys) (hx : xs[i]? = some x) (hy : ys[i]? = some y) :
    wpAny (model X.prog X.w) X.A (pyNext (.ref z)) (fun r s1 => ∃ u, r = some u ∧ wpAny (model X.prog X.w) X.A (letOwnedTupleGo (.Tuple elts kk tpos) (.ref z) u) (fun _ s2 => ∃ T, u = .ref T ∧ H T = none ∧ Inv X pins σ (upd H T (.tup [x, y])) s2 ∧ ZipSt z TI TO i1 i2 a b (i + 1) s2.heap ∧
      ∀ c ∈ [z, TI, TO, i1, i2], (upd H T (.tup [x, y])) c = none) E s1) E s := by
  obtain ⟨hz, hTI, ⟨x0, y0, hTO⟩, h1, h2⟩ := id st
  obtain ⟨its, rv, p, _⟩ := I.list hqx
  obtain ⟨its2, rv2, p2, _⟩ := I.list hqy
  obtain ⟨u, hu, ru⟩ := rv.get hx
  obtain ⟨u2, hu2, ru2⟩ := rv2.get hy
  have hsz := fun c hc => Heap.lt_size (zipSt_obj st c hc).choose_spec.1
  refine wpAny_pyNext_zip_item D hz hTI hTO h1 h2 p.isList p2.isList (x := u) (y := u2) (by simpa using hu) (by simpa using hu2) fun h' z' TO' h1' h2' hT _ hk => ?_
  refine ⟨_, rfl, wpAny_letOwnedTupleGo_zip (s := { s with heap := h' }) z' fun h'' z'' sb => ?_⟩
  have hzl : z < s.heap.objs.size := Heap.lt_size hz
  have hT2 : h''.get? s.heap.objs.size = some { cls := .type "tuple", data := .seq #[u, u2] } := (sb.2 _ (Nat.ne_of_gt hzl)).trans hT
  have new : ObjOk X.prog X.w (upd H s.heap.objs.size (.tup [x, y])) h'' s.heap.objs.size (.tup [x, y]) := ⟨by show 2 ≤ sizeLine; decide, [u, u2], .cons ru (.cons ru2 .nil), ⟨_, hT2, rfl, _, rfl⟩⟩
  have nin : ∀ {c : Addr}, c ∉ [z, TI, TO, i1, i2] → c ≠ z ∧ c ≠ TI ∧ c ≠ TO ∧ c ≠ i1 ∧ c ≠ i2 := fun {c} hc => by simpa using hc
  refine ⟨s.heap.objs.size, rfl, I.hok.fresh (Nat.le_refl _), I.turnedNew (t' := s.toks) (ch := [z, TI, TO, i1, i2]) (fun c o hb q => ?_) hf (Nat.le_refl _) new, ⟨z'', (sb.2 _ D.TIz).trans (hk _ _ D.TIz D.TITO D.TIi1 D.TIi2 hTI), ⟨u, u2, (sb.2 _ D.TOz).trans TO'⟩, h1'.at fun o q => (sb.2 _ D.i1z).trans q, h2'.at fun o q => (sb.2 _ D.i2z).trans q⟩, fun c hc => ?_⟩
  · obtain ⟨n1, n2, n3, n4, n5⟩ := nin hb
    exact (sb.2 c n1).trans (hk c o n1 n3 n4 n5 q)
  · rw [upd_ne (Nat.ne_of_lt (hsz c hc))]
    exact (hf c hc).1
/-- none is left -/
theorem zip_stop {xs ys : List V} {p : Addr × Obj} (hot : Hot1 X.A p) (hp : p ∈ X.pn ++ pins) (D : ZipApart z TI TO i1 i2 a b) (I : Inv X pins σ H s) (hf : ∀ c ∈ [z, TI, TO, i1, i2], FpOk X pins H c) (st : ZipSt z TI TO i1 i2 a b i s.heap) (hqx : SqL X.K H a xs) (hqy : SqL X.K H b ys) (hend : xs.length ≤ i ∨ ys.length ≤ i) :
    wpAny (model X.prog X.w) X.A (pyNext (.ref z)) (fun r s1 => r = none ∧ Inv X pins σ H s1) E s := by
  obtain ⟨hz, hTI, ⟨x0, y0, hTO⟩, h1, h2⟩ := st
  obtain ⟨its, rv, q1, _⟩ := I.list hqx
  obtain ⟨its2, rv2, q2, _⟩ := I.list hqy
  have l1 := rv.length
  have l2 := rv2.length
  have he : its.toArray[i]? = none ∨ its2.toArray[i]? = none := by
    rcases hend with q | q
    · exact .inl (by simp; omega)
    · exact .inr (by simp; omega)
  have np : ∀ c ∈ [z, TI, TO, i1, i2], p.1 ≠ c := fun c hc => (hf c hc).2.2.2.2.2 p hp
  exact pyNext_zip_hot (hot_at hot hp I) (np z (by simp)) (np TO (by simp)) (np i1 (by simp)) (np i2 (by simp)) D hz hTI hTO h1 h2 q1.isList q2.isList he fun h' hk => ⟨rfl, I.turnedL (t' := s.toks) (ch := [z, TI, TO, i1, i2]) (fun c o hb q => by
    have n : c ≠ z ∧ c ≠ TI ∧ c ≠ TO ∧ c ≠ i1 ∧ c ≠ i2 := by simpa using hb
    exact hk c o n.1 n.2.2.1 n.2.2.2.1 n.2.2.2.2 q) hf⟩
end
/-- [elt for x, y in zip(e1, e2) if ..] where an error is in hand; n the turns, xs and ys what the lists hold; W by the turn -/
def tLzH (K : PySem.W.Frag) (ta : TA) (tg : TGs) (tt : TT) (te : TE) (vs : List Nat) : TE := fun σ H Q => ta σ H fun us H1 => ∃ a b xs ys, us = [.ref a, .ref b] ∧ SqL K H1 a xs ∧ SqL K H1 b ys ∧ ∀ D, H1 D = none → ∃ W : Nat → Hp → Prop, W 0 (upd H1 D (.lst [])) ∧
  (∀ i H, W i H → SqL K H a xs ∧ SqL K H b ys) ∧ (∀ H, W (min xs.length ys.length) H → Q (.ref D) H) ∧ ∀ i x y H, xs[i]? = some x → ys[i]? = some y → W i H → ∀ T, H T = none → tg [x, y] (wipe σ vs) (upd H T (.tup [x, y])) fun σ2 H2 => wipe σ2 vs = wipe σ vs ∧ tt σ2 H2 fun b H3 =>
    if b = true then te σ2 H3 fun y H4 => ∃ acc, H4 D = some (.lst acc) ∧ acc.length < sizeLine ∧ W (i + 1) (upd H4 D (.lst (acc ++ [y]))) else W (i + 1) H3
end Tw
end
section
set_option maxHeartbeats 2000000
/-! Where an error is in hand: [elt for x, y in zip(e1, e2) if ..]. -/
namespace Tw
open PySem PySem.Spec PyProof.Rows L2 HotX L2H
section
variable {X : Cx}
theorem pe_lzH {elt e1 e2 : Expr} {es ifs : List Expr} {scope : Scope} {own : List (Str × Nat)} {pos tpos zp cpos : Pos} {kk : Nat} {ta : TA} {tg : TGs} {tt : TT} {te : TE} (hc : HotC X) (hN : X.N.Nodup) (ok : BlkOk X.N X.env.scope scope own)
    (hgz : Gl X "zip") (hmz : X.mg "zip" = none) (ha : PA X [e1, e2] ta) (hs : starEach [e1, e2] X.env = (false, eval e1 X.env) :: starEach [e2] X.env) (hpl : (backTo cpos (starEach [e2] X.env)).any (·.1) = false)
    (hg : ∀ (s : Shared) (H : Hp) (C : Addr) (cl : List (Str × Addr)) (fp : List Addr), PGs (X.blk s H scope (compEnvC scope cl C X.env) fp) es tg ∧ (assignEach es (compEnvC scope cl C X.env)).length = 2 ∧ (assignEach es (compEnvC scope cl C X.env)).findIdx? (·.1) = none)
    (ht : ∀ (s : Shared) (H : Hp) (C : Addr) (cl : List (Str × Addr)) (fp : List Addr), PTs (X.blk s H scope (compEnvC scope cl C X.env) fp) ifs tt)
    (he : ∀ (s : Shared) (H : Hp) (C : Addr) (cl : List (Str × Addr)) (fp : List Addr), PE (X.blk s H scope (compEnvC scope cl C X.env) fp) elt te) :
    PE X (.ListComp elt [⟨.Tuple es kk tpos, .Call (.Name "zip" zp) [e1, e2] [] cpos, ifs, 0⟩] scope pos) (tLzH X.K ta tg tt te (own.map (·.2))) := by
  refine ⟨fun pins s σ H Q I h => ?_⟩
  obtain ⟨p, hot, hpin⟩ := hc
  rw [eval_ListComp]
  have hfree : ∀ y ∈ scope.names, y.2 = .free → ∃ c, X.env.cells.lookup y.1 = some c := fun y hy e => (ok.free y hy e).elim (fun k => I.ok.has _ (.inl k)) fun k => I.ok.has _ (.inr k)
  refine wpAny_comprehension_free (use := none) rfl (fun _ => rfl) (closure_ok hfree) ok.kind (fun y hy e => by rw [ok.uniq y hy, e]) ?_
  refine Call_ (ld_blt I hgz hmz PyProof.Rows.boot_zip (PyProof.Rows.callWith_type1 (thn (ha.run cpos pins s σ H _ I h) fun us s1 ⟨vs, H1, I1, r1, q1⟩ => ?_) hs hpl))
  obtain ⟨a, b, xs, ys, ex, hqx, hqy, q⟩ := q1
  subst ex
  cases r1 with
  | cons ra rr =>
  cases rr with
  | cons rb rr =>
  cases rr
  cases ra
  cases rb
  obtain ⟨its, rv, p1, _⟩ := I1.list hqx
  obtain ⟨its2, rv2, p2, _⟩ := I1.list hqy
  refine call_zip_2 p1.isList p2.isList fun hz1 gz gTI gTO g1 g2 gsz gk => wpAny_pyIter_zip gz ?_
  generalize hN0 : s1.heap.objs.size = n0 at *
  have D : ZipApart (n0 + 4) (n0 + 2) (n0 + 3) n0 (n0 + 1) a b := PySem.W.ktu_apart n0 a b (hN0 ▸ p1.lt) (hN0 ▸ p2.lt)
  generalize hfp : [n0 + 4, n0 + 2, n0 + 3, n0, n0 + 1] = fp
  have mfp : ∀ c ∈ fp, n0 ≤ c := fun c hc => by
    rw [← hfp] at hc
    rcases (show c = n0 + 4 ∨ c = n0 + 2 ∨ c = n0 + 3 ∨ c = n0 ∨ c = n0 + 1 by simpa using hc) with q | q | q | q | q <;> omega
  have I2 : Inv X pins σ H1 { s1 with heap := hz1 } := I1.kept (t' := s1.toks) gk
  generalize hs2 : ({ s1 with heap := hz1 } : Shared) = s2 at I2
  have eh2 : s2.heap = hz1 := by rw [← hs2]
  have st2 : ZipSt (n0 + 4) (n0 + 2) (n0 + 3) n0 (n0 + 1) a b 0 s2.heap := by rw [eh2]; exact ⟨gz, gTI, ⟨_, _, gTO⟩, g1, g2⟩
  have f2 : ∀ c ∈ fp, FpOk X pins H1 c := fun c hc => I1.fpOk (by rw [hN0]; exact mfp c hc) (I1.hok.fresh (by rw [hN0]; exact mfp c hc))
  refine wpAny_newObj_type (newEnv_comp ?_) (by show 0 ≤ sizeLine; decide)
  generalize hD : s2.heap.objs.size = Dd
  have hDn : H1 Dd = none := I2.hok.fresh (Nat.le_of_eq hD)
  obtain ⟨W, w0, wl, wend, step⟩ := q Dd hDn
  generalize hs3 : ({ s2 with heap := s2.heap.push { cls := .type "list", data := .seq ([] : List Value).toArray } } : Shared) = s3
  have h3 : s3.heap = s2.heap.push { cls := .type "list", data := .seq ([] : List Value).toArray } := by rw [← hs3]
  have k3 : ∀ c o, s2.heap.get? c = some o → s3.heap.get? c = some o := fun c o e => by rw [h3]; exact Heap.get?_push_of_some _ e
  have I3 : Inv X pins σ (upd H1 Dd (.lst [])) s3 := by
    have z := I2.laid (t' := s2.toks) (fun c o e => Heap.get?_push_of_some { cls := .type "list", data := .seq ([] : List Value).toArray } e) (Nat.le_of_eq hD) (o := .lst []) ⟨Nat.zero_le _, [], 0, .nil, by rw [← hD]; exact Heap.get?_push_size _ rfl⟩
    rw [← hs3]
    exact z
  have st3 := zipSt_keep st2 (h' := s3.heap) fun c _ o e => k3 c o e
  rw [← hfp] at f2
  have sz2 := fun c hc => Heap.lt_size (zipSt_obj st2 c hc).choose_spec.1
  have f3 : ∀ c ∈ [n0 + 4, n0 + 2, n0 + 3, n0, n0 + 1], FpOk X pins (upd H1 Dd (.lst [])) c ∧ c < s3.heap.objs.size := fun c hc => by
    have hlt := sz2 c hc
    refine ⟨⟨?_, (f2 c hc).2⟩, by rw [h3, Heap.size_push]; exact Nat.lt_succ_of_lt hlt⟩
    rw [upd_ne (by rw [← hD]; exact Nat.ne_of_lt hlt)]
    exact (f2 c hc).1
  have I4 := block_start I3 ok hN f3
  obtain ⟨pgs, pgn, pgx⟩ := hg s3 (upd H1 Dd (.lst [])) s3.heap.objs.size (cellsFrom (s3.heap.objs.size + 1) scope.names (cloFrom X.env.cells scope.names [])) [n0 + 4, n0 + 2, n0 + 3, n0, n0 + 1]
  have pt := ht s3 (upd H1 Dd (.lst [])) s3.heap.objs.size (cellsFrom (s3.heap.objs.size + 1) scope.names (cloFrom X.env.cells scope.names [])) [n0 + 4, n0 + 2, n0 + 3, n0, n0 + 1]
  have pe := he s3 (upd H1 Dd (.lst [])) s3.heap.objs.size (cellsFrom (s3.heap.objs.size + 1) scope.names (cloFrom X.env.cells scope.names [])) [n0 + 4, n0 + 2, n0 + 3, n0, n0 + 1]
  show codeAny _ _ (.compStart (.ListComp elt [⟨.Tuple es kk tpos, .Call (.Name "zip" zp) [e1, e2] [] cpos, ifs, 0⟩] scope pos) 0 (.ref (n0 + 4)) (.ref Dd) (compEnvC scope (cellsFrom (s3.heap.objs.size + 1) scope.names (cloFrom X.env.cells scope.names [])) s3.heap.objs.size X.env)) (compPost (model X.prog X.w) X.A X.xe none (EP X pins σ Q) (.ref Dd) s3.heap.objs.size) { s3 with heap := pushCells (s3.heap.push { cls := .type "dict", data := .dict #[] }) scope.names }
  generalize hH3 : upd H1 Dd (.lst []) = H3 at *
  generalize hce : compEnvC scope (cellsFrom (s3.heap.objs.size + 1) scope.names (cloFrom X.env.cells scope.names [])) s3.heap.objs.size X.env = ce at *
  have cL : ce.locals = s3.heap.objs.size := by rw [← hce]; rfl
  generalize hs4 : ({ s3 with heap := pushCells (s3.heap.push { cls := .type "dict", data := .dict #[] }) scope.names } : Shared) = s4 at *
  have k4 : ∀ c o, s3.heap.get? c = some o → s4.heap.get? c = some o := fun c o e => by rw [← hs4]; exact pushCells_keeps _ _ _ _ (Heap.get?_push_of_some _ e)
  have st4 := zipSt_keep st3 (h' := s4.heap) fun c _ o e => k4 c o e
  have P3 := I3.pin p (List.mem_append_left _ hpin)
  -- the block, the error in hand pinned
  have J4 : Inv (X.blk s3 H3 scope ce [n0 + 4, n0 + 2, n0 + 3, n0, n0 + 1]) [p] (wipe σ (own.map (·.2))) H3 s4 := I4.pins_of fun r hr => by
    have e : r = p := by simpa using hr
    rw [e]
    refine ⟨k4 _ _ P3.1, P3.2.1, ?_, fun hm => (List.mem_cons.mp (I3.stkSub p.1 hm)).elim P3.2.2.1 P3.2.2.2.1, P3.2.2.2.2⟩
    show p.1 ≠ ce.locals
    rw [cL]; exact Nat.ne_of_lt (Heap.lt_size P3.1)
  have np : ∀ c ∈ [n0 + 4, n0 + 2, n0 + 3, n0, n0 + 1], p.1 ≠ c := fun c hc => (f2 c hc).2.2.2.2.2 p (List.mem_append_left _ hpin)
  have stat : ∀ {σ' : L2.St} {H' : Hp} {s' : Shared}, Inv (X.blk s3 H3 scope ce [n0 + 4, n0 + 2, n0 + 3, n0, n0 + 1]) [p] σ' H' s' → (∀ c ∈ [n0 + 4, n0 + 2, n0 + 3, n0, n0 + 1], H' c = none) → ∀ c ∈ [n0 + 4, n0 + 2, n0 + 3, n0, n0 + 1], FpOk (X.blk s3 H3 scope ce [n0 + 4, n0 + 2, n0 + 3, n0, n0 + 1]) [p] H' c := fun {σ' H' s'} I' hn c hc =>
    ⟨hn c hc, (I'.ok.exf c hc).1, I'.ok.exfs c hc, .inl hc, fun x c' e => (I'.ok.exf c hc).2 x c' e, fun r hr => by
      have e : r = p := by simpa using hr
      rw [e]; exact np c hc⟩
  have hotB : Hot1 (X.blk s3 H3 scope ce [n0 + 4, n0 + 2, n0 + 3, n0, n0 + 1]).A p := hot
  have inB : p ∈ (X.blk s3 H3 scope ce [n0 + 4, n0 + 2, n0 + 3, n0, n0 + 1]).pn ++ [p] := List.mem_append_right _ (.head _)
  have loop : codeAny (model X.prog X.w) X.A (.compLoop (.ListComp elt [⟨.Tuple es kk tpos, .Call (.Name "zip" zp) [e1, e2] [] cpos, ifs, 0⟩] scope pos) 0 (.ref (n0 + 4)) (.ref Dd) ce) (compPost (model X.prog X.w) X.A X.xe none (EP X pins σ Q) (.ref Dd) s3.heap.objs.size) s4 := by
    refine compLoop_any (fun m s' => ∃ i H', Inv (X.blk s3 H3 scope ce [n0 + 4, n0 + 2, n0 + 3, n0, n0 + 1]) [p] (wipe σ (own.map (·.2))) H' s' ∧ ZipSt (n0 + 4) (n0 + 2) (n0 + 3) n0 (n0 + 1) a b i s'.heap ∧ (∀ c ∈ [n0 + 4, n0 + 2, n0 + 3, n0, n0 + 1], H' c = none) ∧ W i H' ∧ i + m = min xs.length ys.length) ?_ (min xs.length ys.length)
      ⟨0, H3, J4, st4, fun c hc => (f3 c hc).1.1, w0, Nat.zero_add _⟩
    rintro m s5 ⟨i, H5, I5, st5, n5, w5, hi⟩
    obtain ⟨l5, l5'⟩ := wl i H5 w5
    by_cases hend : min xs.length ys.length ≤ i
    · refine thnF (zip_stop (X := X.blk s3 H3 scope ce [n0 + 4, n0 + 2, n0 + 3, n0, n0 + 1]) hotB inB D I5 (stat I5 n5) st5 l5 l5' (by omega)) fun r s6 ⟨hr, I6⟩ => ?_
      subst hr
      have I7 : Inv X pins σ H5 s6 := I3.call' (ch := [n0 + 4, n0 + 2, n0 + 3, n0, n0 + 1]) I6.os I6.base I6.hok I6.bare fun c hc => ⟨(f3 c hc).1.2.2.2.1, (f3 c hc).1.2.1, (f3 c hc).1.2.2.2.2.1, (f3 c hc).1.2.2.2.2.2⟩
      have nC : H5 s3.heap.objs.size = none := by
        have z : H5 ce.locals = none := I6.free
        rw [cL] at z; exact z
      obtain ⟨mm, hn, _⟩ := I6.loc
      have hn : s6.heap.Ns ce.locals mm := hn
      rw [cL] at hn
      obtain ⟨c0, c1, c2, c3, c4, c5⟩ := I3.fpOk (H' := H5) (Nat.le_refl _) nC
      have ei : i = min xs.length ys.length := by omega
      subst ei
      exact ⟨mm, hn, fun h'' sb => ⟨.ref Dd, H5, I7.turned (t' := s6.toks) (fun c o hc e => (sb.2 c hc).trans e) c0 c1 c3 c4 c5, rfl, wend H5 w5⟩⟩
    · have hlt : i < xs.length := by omega
      have hlt2 : i < ys.length := by omega
      refine thnF (zip_go (elts := es) (kk := kk) (tpos := tpos) (X := X.blk s3 H3 scope ce [n0 + 4, n0 + 2, n0 + 3, n0, n0 + 1]) D I5 (stat I5 n5) st5 l5 l5' (List.getElem?_eq_getElem hlt) (List.getElem?_eq_getElem hlt2)) fun r s6 ⟨u, hr, h6⟩ => ?_
      subst hr
      refine thnF h6 fun _ s7 ⟨T, eu, nT, I7, st7, n7⟩ => ?_
      subst eu
      have I7' := I7.pinned (stat I7 n7) (zipSt_obj st7)
      have gt : gTup X.K 2 tg (.ref T) (wipe σ (own.map (·.2))) (upd H5 T (.tup [xs[i], ys[i]])) _ := ⟨T, _, rfl, SqT.of upd_same, rfl, step i _ _ H5 (List.getElem?_eq_getElem hlt) (List.getElem?_eq_getElem hlt2) w5 T nT⟩
      refine thnF (pg_tupH (X := X.blk s3 H3 scope ce [n0 + 4, n0 + 2, n0 + 3, n0, n0 + 1]) hotB pgs pgn pgx (List.mem_append_right _ (List.mem_append_left _ (.head _))) I7' (v := .ref T) rfl gt) fun _ s8 ⟨σ8, H8, I8, hw8, q8⟩ => ?_
      refine thnF (pt.run _ s8 σ8 H8 _ I8 q8) fun t s9 ⟨H9, I9, q9⟩ => ?_
      have fin : ∀ {s' : Shared} {H' : Hp}, Inv (X.blk s3 H3 scope ce [n0 + 4, n0 + 2, n0 + 3, n0, n0 + 1]) ([p] ++ pinsAt [n0 + 4, n0 + 2, n0 + 3, n0, n0 + 1] s7.heap) σ8 H' s' → W (i + 1) H' →
          ∃ m', m' < m ∧ ∃ i H', Inv (X.blk s3 H3 scope ce [n0 + 4, n0 + 2, n0 + 3, n0, n0 + 1]) [p] (wipe σ (own.map (·.2))) H' s' ∧ ZipSt (n0 + 4) (n0 + 2) (n0 + 3) n0 (n0 + 1) a b i s'.heap ∧ (∀ c ∈ [n0 + 4, n0 + 2, n0 + 3, n0, n0 + 1], H' c = none) ∧ W i H' ∧ i + m' = min xs.length ys.length := fun {s' H'} I' w' => by
        have at7 : ∀ c ∈ [n0 + 4, n0 + 2, n0 + 3, n0, n0 + 1], ∀ o, s7.heap.get? c = some o → s'.heap.get? c = some o ∧ H' c = none := fun c hc o e =>
          let y := I'.pin (c, o) (List.mem_append_right _ (List.mem_append_right _ (mem_pinsAt hc e)))
          ⟨y.1, y.2.1⟩
        have hl : (wipe σ (own.map (·.2))).length = σ8.length := by rw [← hw8, wipe_length]
        refine ⟨m - 1, by omega, i + 1, H', (I'.unpinned (pins := [p])).weak hl (fun j v e => ?_), zipSt_keep st7 fun c hc o e => (at7 c hc o e).1, fun c hc => ?_, w', by omega⟩
        · rw [← hw8] at e
          exact (wipe_some e).1
        · obtain ⟨o, e, _⟩ := zipSt_obj st7 c hc
          exact (at7 c hc o e).2
      cases t with
      | false =>
        simp only [Bool.false_eq_true, if_false] at q9 ⊢
        exact fin I9 q9
      | true =>
        simp only [if_true] at q9 ⊢
        refine thnF (pe.run _ s9 σ8 H9 _ I9 q9) fun _ s10 ⟨yv, H10, I10, r10, acc, hD10, hz10, nx⟩ => ?_
        exact app_ok (X := X.blk s3 H3 scope ce [n0 + 4, n0 + 2, n0 + 3, n0, n0 + 1]) I10 hD10 hz10 r10 fun s11 I11 => fin I11 nx
  exact codeAny_compStart_list loop (wpAny_pyIter_zip st4.1 loop)
end
end Tw
end
section
set_option maxHeartbeats 2000000
/-! x(lambda: body), where errors bear the context None; try with two clauses that give names. -/
namespace Tw
open PySem PySem.Spec PyProof.Rows L2 HotX L2H
/-- the context of the lambda's body -/
def lamX (X : Cx) (A : Around) (outer : List Env) (s : Shared) (H : Hp) (E : XK) (scope : Scope) (f c' : Addr) : Cx :=
  (LamX.lamCx X A outer s H E scope f c').tr [] fun e s' => wpAny (model X.prog X.w) (A.deeper (LamX.lamEnv X scope s.heap.objs.size f c')) (leaving (LamX.lamEnv X scope s.heap.objs.size f c') e) (fun _ s'' => L2N.CX X.prog X.w outer H s E e s'') (fun e' s'' => L2N.CX X.prog X.w outer H s E e' s'') s'
section
variable {X : Cx} {pins : List (Addr × Obj)} {σ : L2.St} {H HZ : Hp} {s s1 : Shared}
theorem takes_lam {A : Around} {outer : List Env} {E : XK} {scope : Scope} {f c' : Addr} : L2N.Takes (lamX X A outer s H E scope f c') (fun cls d _ H => E cls d H) := L2N.takes_of (X := lamX X A outer s H E scope f c') rfl rfl rfl (E₁ := _) rfl
/-- a(), in the def that got the lambda -/
theorem pe_actN {CXg : CXT} {Eg : XK} {Ng : List Str} {qg : Str} {sg : Scope} {g f c' : Addr} {cdg pm ctv : Value} {params : Arguments} {body : Expr} {scope : Scope} {k i : Nat} {a : Str} {pn : List (Addr × Obj)} {xe : Value → Shared → Prop} {W : WX} {tb : XK → TE} {p1 p2 : Pos}
    (I : Inv X pins σ H s) (L : LamX.LamS X.env.scope scope) (hf : s.heap.get? f = some (PySem.W.kla_obj "<lambda>" (X.env.qual ++ "<lambda>") params body scope (cloFrom X.env.cells scope.names []) pm c' ctv)) (hfn : H f = none) (hfr : f ∉ frs X.stack)
    (hbind : bindArgs (PySem.W.kla_fn "<lambda>" (X.env.qual ++ "<lambda>") params body scope (cloFrom X.env.cells scope.names []) pm (.ref c') ctv) ⟨[], []⟩ = pure [])
    (tk : L2N.Takes ((cxOf CXg X.prog X.w X.K X.mg X.base Ng qg sg g cdg X.A X.stack s H Eg).tr pn xe) W) (hr : Room (k + 1) (X.A.deeper (envOfC qg sg s.heap.objs.size g cdg)))
    (hbody : ∀ (E : XK) (A : Around) (outer : List Env) (s : Shared) (H : Hp), Room k (A.deeper (LamX.lamEnv X scope s.heap.objs.size f c')) → PE (lamX X A outer s H E scope f c') body (tb E))
    (hN : Ng[i]? = some a) (hv : Vis sg a) (hd : (a == ("__debug__" : Str)) = false) (hcd : (a == ("__classdict__" : Str)) = false) :
    PE ((cxOf CXg X.prog X.w X.K X.mg X.base Ng qg sg g cdg X.A X.stack s H Eg).tr pn xe) (.Call (.Name a p1) [] [] p2)
      (fun σZ HZ Q => σZ[i]? = some (some (.ref f)) ∧ HZ c' = some (LamX.CodeO c' (X.env.qual ++ "<lambda>")) ∧ tb (fun cls d H' => W cls d σZ H') σ HZ Q) := by
  refine ⟨fun pz sz σz Hz Q IZ ⟨hs, hc, ht⟩ => ?_⟩
  generalize hE : (fun cls d H' => W cls d σz H' : XK) = E at ht
  refine wpAny_Call_Name_kw (thn ((pe_var (pos := p1) (i := i) hN hv hd hcd).run pz sz σz Hz (fun v H1 => v = .ref f ∧ H1 = Hz) IZ ⟨.ref f, hs, rfl, rfl⟩) fun u s1 ⟨v, H1, I1, r1, ev, eH⟩ => ?_)
  subst ev
  rw [eH] at I1
  have eu : u = Value.ref f := r1
  subst eu
  have of1 := I1.base.keep f _ hf hfn hfr (fun z => nomatch (show f ∈ ([] : List Addr) from z))
  refine PySem.W.callWith_F0 ⟨_, _, _, _, of1⟩ ?_
  obtain ⟨⟨oc, vs, t, hoc, hdc, hvc⟩, _, _⟩ := I1.hok c' _ hc
  have rc : codeAny (model X.prog X.w) (X.A.deeper (envOfC qg sg s.heap.objs.size g cdg)) (.call (.ref f) ⟨[], []⟩) (CR (L2N.CX X.prog X.w) (envOfC qg sg s.heap.objs.size g cdg :: X.stack) X.prog X.w Hz s1 Q E) s1 := by
    refine PySem.W.kla_callFunE hr.depth of1 rfl L.co L.gen rfl ⟨c', oc, vs, t, rfl, hoc, hdc, hvc⟩ ?_
    rw [hbind]
    refine wpAny_pure (wpAny_newFunctionEnv (fun y hy => (L.own y hy).2) (fun y hy => absurd hy (by simp)) (fun h₁ hns hsb => ⟨I1.nolimit.fresh _ hsb, ?_⟩) L.kind)
    show codeAny _ _ (.expr body (LamX.lamEnv X scope s1.heap.objs.size f c')) _ _
    have kp : ∀ b o, s1.heap.get? b = some o → h₁.get? b = some o := fun b o e => hsb.extBut b o (Nat.ne_of_lt (Heap.lt_size e)) (Heap.get?_push_of_some _ e)
    have J0 := LamX.lam_start2 (E := E) (f := f) (c' := c') (tk := s1.toks + ([] : List (Str × Value)).length) I L I1.env0 hr.hd (I1.base : Un (frs X.stack) [] H Hz s.heap s1.heap) hns kp
    have J : Inv (lamX X (X.A.deeper (envOfC qg sg s.heap.objs.size g cdg)) (envOfC qg sg s.heap.objs.size g cdg :: X.stack) s1 Hz E scope f c') [] σ Hz _ := J0.toTry _
    refine PySem.W.kla_codeExpr (wpAny_mono ((hbody E _ _ s1 Hz (hr.deeper _)).run [] _ _ Hz Q J ht) (fun v s' ⟨w', H', J', rv, q⟩ => ?_) fun e s' hq => hq)
    exact ⟨w', H', J'.os, J'.bare, J'.base, J'.hok, rv, q⟩
  refine wpAny_call (codeAny_mono rc fun r s' hq => ?_)
  cases r with
  | error e => exact (hE ▸ L2N.passAt tk σz : PassesAt (L2N.CX X.prog X.w) _ σz E) pz Hz s1 e s' I1 hq
  | ok fl =>
    cases fl with
    | ret u => exact I1.after hq
    | next => exact hq.elim
    | brk => exact hq.elim
    | cont => exact hq.elim
end
/-- what a def makes of the lambda that it gets -/
def GivesN (X : Cx) (k : Nat) (Ng : List Str) (x : Str) (sg : Scope) (g : Addr) (cdg : Value) (bg : List Stmt) (a q : Str) (TT : (XK → Hp → VK → Prop) → Hp → VK → Prop) : Prop :=
  ∀ (f c' : Addr) (s : Shared) (H : Hp) (Q : VK) (tl : XK → Hp → VK → Prop), Room (k + 1) (X.A.deeper (envOfC x sg s.heap.objs.size g cdg)) →
    (∀ (W : WX) (pn : List (Addr × Obj)) (xe : Value → Shared → Prop) (p1 p2 : Pos), L2N.Takes ((cxOf C8.CX0 X.prog X.w X.K X.mg X.base Ng x sg g cdg X.A X.stack s H C8.E0).tr pn xe) W →
      PE ((cxOf C8.CX0 X.prog X.w X.K X.mg X.base Ng x sg g cdg X.A X.stack s H C8.E0).tr pn xe) (.Call (.Name a p1) [] [] p2) (fun σZ HZ Q => σZ[0]? = some (some (.ref f)) ∧ HZ c' = some (LamX.CodeO c' q) ∧ tl (fun cls d H' => W cls d σZ H') HZ Q)) →
    H c' = some (LamX.CodeO c' q) → TT tl H Q →
    ∃ t, PSs (cxOf C8.CX0 X.prog X.w X.K X.mg X.base Ng x sg g cdg X.A X.stack s H C8.E0).nox bg t ∧ t { nx := fun _ H' => Q .non H', rt := Q } (L2.start Ng [.ref f]) H
theorem pe_lamN {X : Cx} {T : List (Addr × Str)} {TT : (XK → Hp → VK → Prop) → Hp → VK → Prop} {x a : Str} {g c P : Addr} {k : Nat} {pg : Arguments} {bg : List Stmt} {sg : Scope} {dV kV doc pm cdv ct oc : Value} {an od : Option Addr} {osl : Array (Option Value)} {Ng : List Str}
    {params : Arguments} {body : Expr} {scope : Scope} {t : XK → TE} {p lpos pos : Pos} (hg : Gl X x) (hm : X.mg x = some (.ref g)) (hk : PySem.W.keepIn X.K (.ref g) = true)
    (lk : X.K.lookup g = some ⟨oc, od, .func (PySem.W.fnOf x x pg bg sg dV kV doc pm an cdv ct), osl⟩) (hcg : PySem.W.codeIn X.K cdv x = true) (hb : L2.Binds X.K (PySem.W.fnOf x x pg bg sg dV kV doc pm an cdv ct) [a] []) (Sg : FnScope Ng [a] sg) (hNg : Ng[0]? = some a) (hva : Vis sg a)
    (hG : GivesN X k Ng x sg g cdv bg a (X.env.qual ++ "<lambda>") TT)
    (TB : LamX.TabB X.base X.mg c P) (hcode : X.env.code = .ref c) (hmT : (P, X.env.qual ++ "<lambda>") ∈ T) (hu : ∀ p ∈ T, p.1 = P → p.2 = X.env.qual ++ "<lambda>") (hr : Room (k + 2) X.A) (L : LamX.LamS X.env.scope scope) (hdef : defaultsOf params X.env = ([], []))
    (hbind : ∀ (q : Str) (cl : List (Str × Addr)) (pm cv ctv : Value), bindArgs (PySem.W.kla_fn "<lambda>" q params body scope cl pm cv ctv) ⟨[], []⟩ = pure [])
    (hbody : ∀ (A : Around) (outer : List Env) (s : Shared) (H : Hp) (E : XK) (f c' : Addr), Room k (A.deeper (LamX.lamEnv X scope s.heap.objs.size f c')) → PE (lamX X A outer s H E scope f c') body (t E))
    (hdb : (x == ("__debug__" : Str)) = false) (hd : (a == ("__debug__" : Str)) = false) (hcd : (a == ("__classdict__" : Str)) = false) :
    PE X (.Call (.Name x p) [.Lambda params body scope lpos] [] pos) (LamX.tLam T TT t) := by
  refine ⟨fun pins s σ H Q I ⟨hT, h⟩ => ?_⟩
  refine wpAny_Call_Name_kw (ld_glob I hg hm (PySem.W.callWith_K (h₀ := X.base) I.ok.mod.kin hk ?_ (by rfl) (by rfl)) hdb)
  show wpAny _ _ (spliced ((false, eval (.Lambda params body scope lpos) X.env) :: backTo pos (starEach [] X.env))) _ _ s
  refine Calls.spliced_cons (LamX.lam_make2 I TB hcode hmT hu hT hdef (L.has I.ok) fun f c' pm' ctv H1 s' I1 eN T1 hf hfn hfr hco => Calls.spliced_nil ⟨I1.kIn, ?_⟩)
  have rc : codeAny (model X.prog X.w) X.A (.call (.ref g) ⟨[.ref f], []⟩) (CR C8.CX0 X.stack X.prog X.w H1 s' Q C8.E0) s' := by
    refine LamX.run_ofS (N := Ng) (ps := [a]) (us := [.ref f]) (vs := [.ref f]) lk hcg Sg hr I1.env0 (hb s' [.ref f] I1.kIn rfl) (.cons rfl .nil) rfl fun hr' => ?_
    obtain ⟨t', ht', hq'⟩ := hG f c' s' H1 Q (fun E H' Q' => t E σ H' Q') hr' (fun W pn xe p1 p2 tk => pe_actN (i := 0) (tb := t) I1 L hf hfn hfr (hbind _ _ _ _ _) tk hr' (fun E A outer s H hr2 => hbody A outer s H E f c' hr2) hNg hva hd hcd) hco (h H1 eN T1)
    exact ⟨t', ht'.nox, hq'⟩
  refine wpAny_call (codeAny_mono rc fun r s2 hq => ?_)
  cases r with
  | error e => exact (show False from hq).elim
  | ok fl =>
    cases fl with
    | ret u => exact I1.after hq
    | next => exact hq.elim
    | brk => exact hq.elim
    | cont => exact hq.elim
end Tw
end
section
set_option maxHeartbeats 2000000
/-! try with two clauses that give a name; the call of a def while an error is in hand. -/
namespace Tw
open PySem PySem.Spec PyProof.Rows L2 HotX L2H
/-- slot i's name is gone behind the suite -/
def gone (i : Nat) (D : Ends) : Ends := { nx := fun σ' H' => D.nx (σ'.set i none) H', rt := D.rt, bk := fun σ' H' => D.bk (σ'.set i none) H', ct := fun σ' H' => D.ct (σ'.set i none) H' }
def w2 (K : PySem.W.Frag) (c1 c2 : Value) (i : Nat) (ts1 ts2 : Addr → Value → Option Addr → TS) (Wout : WX) (D : Ends) : WX := fun cls d σ H => ∃ b1, PySem.W.exmOne K cls c1 = some b1 ∧ (b1 = true → ∀ a, H a = none → ts1 a cls d (gone i D) (σ.set i (some (.ref a))) H) ∧
  (b1 = false → ∃ b2, PySem.W.exmOne K cls c2 = some b2 ∧ (b2 = true → ∀ a, H a = none → ts2 a cls d (gone i D) (σ.set i (some (.ref a))) H) ∧ (b2 = false → Wout cls d σ H))
section
variable {X : Cx} {x1 x2 n : Str} {c1 c2 : Value} {i : Nat} {body s1 s2 : List Stmt} {a1 a2 : Stmt} {n1 n2 p1 p2 pos : Pos} {tb : WX → TS} {ts1 ts2 : Addr → Value → Option Addr → TS} {Wout : WX}
theorem ps_try2 (hs : X.stack = X.env :: X.outer) (hf : X.env.frame = some X.env.locals) (hN : X.N.Nodup) (hi : X.N[i]? = some n) (hln : X.env.kindOf n = some .local) (hc1 : Names X x1 c1) (hc2 : Names X x2 c2) (tk : L2N.Takes X Wout)
    (hb : ∀ (W : WX) (pn : List (Addr × Obj)) (xe : Value → Shared → Prop), L2N.Takes (X.tr pn xe) W → PSs (X.tr pn xe) body (tb W))
    (hs1 : ∀ (a : Addr) (oe : Obj) (cls : Value) (d : Option Addr) (pn : List (Addr × Obj)), L2N.Zn cls d oe → (∃ vs, oe.data = .fields vs) → PSs (X.suite a ((a, oe) :: pn)) (a1 :: s1) (ts1 a cls d))
    (hs2 : ∀ (a : Addr) (oe : Obj) (cls : Value) (d : Option Addr) (pn : List (Addr × Obj)), L2N.Zn cls d oe → (∃ vs, oe.data = .fields vs) → PSs (X.suite a ((a, oe) :: pn)) (a2 :: s2) (ts2 a cls d)) :
    PS X (.Try body [.ExceptHandler (some (.Name x1 n1)) (some n) (a1 :: s1) p1, .ExceptHandler (some (.Name x2 n2)) (some n) (a2 :: s2) p2] [] [] pos) (fun D σ H => tb (w2 X.K c1 c2 i ts1 ts2 Wout D) D σ H) := by
  refine ⟨fun pins s σ H D I h => ?_⟩
  have ok := I.ok
  have hfr : X.A.frames = some (X.env :: X.outer) := by rw [ok.frames, hs]
  refine wpAny_Try_except ?_
  refine wpAny_mono ((hb (w2 X.K c1 c2 i ts1 ts2 Wout D) (X.pn ++ pins) (fun e t1 => wpAny (model X.prog X.w) X.A (noteFrame e X.env) (fun _ t2 => wpAny (model X.prog X.w) X.A (setFlight e none) (fun _ t3 =>
    wpAny (model X.prog X.w) X.A (handleBy e X.env [.ExceptHandler (some (.Name x1 n1)) (some n) (a1 :: s1) p1, .ExceptHandler (some (.Name x2 n2)) (some n) (a2 :: s2) p2]) (SP X pins D) X.xe t3) X.xe t2) X.xe t1) (fun u s' xx => ?_)).run [] s σ H D (I.toTry _) h) (fun f t1 hsp => ?_) (fun e t1 he => he)
  · obtain ⟨a, B, sI, pins', σ', H', cls, d, rfl, J', nb, up, sky, na, os, ag, b1, e1, yes1, no1⟩ := xx
    have J : Inv X pins σ' H' sI := J'.ofTry ok
    have sky' : Sky B (X.env :: X.outer) a (L2N.Zn cls d) X.env.locals s'.heap := by rw [← hs]; exact sky
    refine L2N.Sky.land L2N.Zn.steady hfr hf sky' fun h3 fl3 up3 => ?_
    have J3 : Inv X pins σ' H' { s' with heap := h3 } := J.landed nb fl3.1 (up.trans up3) os ag
    obtain ⟨oe3, vs3, he3, hz3, hd3⟩ := fl3.there
    have nfr : a ∉ frs (X.env :: X.outer) := fun hm => by
      obtain ⟨_, o', e', hnf⟩ := fl3.2.2.1.mem hm
      rw [he3] at e'; cases e'
      exact hnf _ hd3
    have nL : a ≠ X.env.locals := fun z => nfr (List.mem_filterMap.mpr ⟨X.env, List.mem_cons_self, by rw [hf, z]⟩)
    have nF : a ∉ X.fs := fun hm => by
      obtain ⟨e, he, q⟩ := List.mem_filterMap.mp hm
      exact nfr (List.mem_filterMap.mpr ⟨e, List.mem_cons_of_mem _ he, q⟩)
    have S3 := J3.suite he3 hd3 na nL nF
    have LT : PySem.W.Looks (model X.prog X.w) h3 (typeOf (.ref a)) cls := fun A Q E s k q => wpAny_typeOf_ref (k _ _ he3) (by rw [hz3.1]; exact q)
    have test : ∀ {x : Str} {c : Value} {np : Pos} {Q E : Value → Shared → Prop}, Names X x c → Q c { s' with heap := h3 } → wpAny (model X.prog X.w) (X.A.mark (some (.ref a))) (eval (.Name x np) X.env) Q E { s' with heap := h3 } := fun {x c np Q E} hc q => by
      obtain ⟨hg, hdb, hm | ⟨hm, hv, hnn⟩⟩ := hc
      · exact ld_glob (X := X.suite a ((a, oe3) :: (X.pn ++ pins))) S3 hg hm q hdb
      · exact ld_blt (X := X.suite a ((a, oe3) :: (X.pn ++ pins))) S3 hg hm hv q hnn hdb
    -- one clause
    have clause : ∀ {x : Str} {c : Value} {np px : Pos} {b0 : Stmt} {sx : List Stmt} {hds : List ExceptHandler} {tsx : Addr → Value → Option Addr → TS} {b : Bool}, Names X x c →
        (∀ (oe : Obj), L2N.Zn cls d oe → (∃ vs, oe.data = .fields vs) → PSs (X.suite a ((a, oe) :: (X.pn ++ pins))) (b0 :: sx) (tsx a cls d)) → PySem.W.exmOne X.K cls c = some b → (b = true → tsx a cls d (gone i D) (σ'.set i (some (.ref a))) H') →
        (b = false → wpAny (model X.prog X.w) X.A (handleBy (.ref a) X.env hds) (SP X pins D) X.xe { s' with heap := h3 }) →
        wpAny (model X.prog X.w) X.A (handleBy (.ref a) X.env (.ExceptHandler (some (.Name x np)) (some n) (b0 :: sx) px :: hds)) (SP X pins D) X.xe { s' with heap := h3 } := by
      intro x c np px b0 sx hds tsx b hc hsu hb1 yes no
      refine wpAny_handleBy_cons (codeAny_handlers_test (test hc ((PySem.W.exm_one (M := model X.prog X.w) J3.kIn LT hb1).here ?_))) (by intro q; cases q)
      cases b with
      | false => exact no rfl
      | true =>
        refine codeAny_handlers_suite_as (HandSPX.lands_againZ fl3 fun h4 fl4 up4 => ?_)
        have J4 : Inv X pins σ' H' { s' with heap := h4 } := J.landed nb fl4.1 ((up.trans up3).trans up4) os ag
        obtain ⟨oe4, vs4, he4, hz4, hd4⟩ := fl4.there
        have S4 := J4.suite he4 hd4 na nL nF
        refine store_ok (X := X.suite a ((a, oe4) :: (X.pn ++ pins))) (v := .ref a) S4 hN hi (.inl hln) rfl (fun s5 S5 => ?_) (.inr hln)
        refine wpAny_mono ((hsu oe4 hz4 ⟨_, hd4⟩).run [] s5 _ H' _ S5 (yes rfl)) (fun f s6 hsp => ?_) (fun _ _ z => z.elim)
        have fin : ∀ {σ6 : L2.St} {H6 : Hp} {Q : Shared → Prop}, Inv (X.suite a ((a, oe4) :: (X.pn ++ pins))) [] σ6 H6 s6 → (∀ s7, Inv X pins (σ6.set i none) H6 s7 → Q s7) →
            wpAny (model X.prog X.w) X.A (do bindName X.env n .none; unbindBehindTheSuite X.env n px) (fun _ s7 => Q s7) X.xe s6 := fun {σ6 H6 Q} S6 hq => gone_ok (S6.unsuite ok) hN hi hln hq
        cases f with
        | next => obtain ⟨σ6, H6, S6, q6⟩ := hsp; exact fin S6 fun s7 J7 => ⟨_, _, J7, q6⟩
        | brk => obtain ⟨σ6, H6, S6, q6⟩ := hsp; exact fin S6 fun s7 J7 => ⟨_, _, J7, q6⟩
        | cont => obtain ⟨σ6, H6, S6, q6⟩ := hsp; exact fin S6 fun s7 J7 => ⟨_, _, J7, q6⟩
        | ret u => obtain ⟨v6, σ6, H6, S6, r6, q6⟩ := hsp; exact fin S6 fun s7 J7 => ⟨_, _, _, J7, r6, q6⟩
    refine clause hc1 (fun oe z f => hs1 a oe cls d _ z f) e1 (fun b => yes1 b a na) fun b => ?_
    obtain ⟨b2, e2, yes2, no2⟩ := no1 b
    refine clause hc2 (fun oe z f => hs2 a oe cls d _ z f) e2 (fun b => yes2 b a na) fun b => ?_
    -- it goes on
    refine wpAny_handleBy_nil ?_
    obtain ⟨_, _, _, oe, vs, T, oT, ts', he, hz, hd, hv, hr⟩ := id fl3
    unfold PySem.passOn
    refine wpAny_bind (wpAny_field he hd hv ?_)
    rw [if_neg (show ¬ ((Value.ref T == Value.none) = true) from by simp)]
    have fin : wpAny (model X.prog X.w) X.A (setFlight (.ref a) X.env.frame) (fun _ t4 => wpAny (model X.prog X.w) X.A (throw (.ref a) : Sem Flow) (SP X pins D) X.xe t4) X.xe { s' with heap := h3 } := by
      rw [hf]
      exact HandSPX.setFlight_upZ fl3 fun h4 hh4 up4 => wpAny_throw (tk _ _ ⟨a, B, sI, pins, σ', H', cls, d, rfl, J, nb, (up.trans up3).trans up4, .inr (.inr (by rw [hs]; exact hh4)), na, os, ag, no2 b⟩)
    first
      | exact wpAny_bind (wpAny_pure (wpAny_bind fin))
      | exact wpAny_bind fin
  · cases f with
    | next => obtain ⟨σ', H', J', q⟩ := hsp; exact wpAny_execs_nil ⟨σ', H', J'.ofTry ok, q⟩
    | brk => obtain ⟨σ', H', J', q⟩ := hsp; exact ⟨σ', H', J'.ofTry ok, q⟩
    | cont => obtain ⟨σ', H', J', q⟩ := hsp; exact ⟨σ', H', J'.ofTry ok, q⟩
    | ret u => obtain ⟨v, σ', H', J', r, q⟩ := hsp; exact ⟨v, σ', H', J'.ofTry ok, r, q⟩
end
/-! ### a def called while an error is in hand: its promise speaks of the error -/
structure FnP (P : Program) (w : World) (K : PySem.W.Frag) (mg : Str → Option Value) (base : Heap) (CX : CXT) (k : Nat) (f : Addr) (fd : FuncData) (ps : List Str) (sp : (Addr × Obj) → Sp) : Prop where
  len : ∀ p vs H Q E, sp p vs H Q E → vs.length = ps.length
  run : ∀ (A : Around) (outer : List Env) (s : Shared) (H : Hp) (args : Args) (us : List Value) (vs : List V) (Q : VK) (E : XK) (p : Addr × Obj), RoomH k A → Hot1 A p → PinOk outer H s p → Env0 P w K mg base A outer s H → BindsTo s fd args (ps.zip us) → Vals vs us → sp p vs H Q E →
    codeAny (model P w) A (.call (.ref f) args) (CR CX outer P w H s Q E) s
theorem fn_ofP {CX : CXT} {P : Program} {w : World} {K : PySem.W.Frag} {mg : Str → Option Value} {base : Heap} {k : Nat} {f : Addr} {x qual : Str} {params : Arguments} {body : List Stmt} {scope : Scope} {dvs : List V} {kws : List (Str × V)} {fd : FuncData} {N ps : List Str} {sp : (Addr × Obj) → Sp}
    (F : FunD K x qual params body scope dvs kws f fd) (S : FnScope N ps scope) (len : ∀ p vs H Q E, sp p vs H Q E → vs.length = ps.length)
    (hbody : ∀ (cdv : Value) (A : Around) (outer : List Env) (s : Shared) (H : Hp) (vs : List V) (Q : VK) (E : XK) (p : Addr × Obj), Hot1 A p → RoomH k (A.deeper (envOfC qual scope s.heap.objs.size f cdv)) → sp p vs H Q E →
      ∃ t, PSs (cxH CX P w K mg base N qual scope f cdv A outer s H E p) body t ∧ t { nx := fun _ H' => Q .non H', rt := Q } (L2.start N vs) H) : FnP P w K mg base CX (k + 1) f fd ps sp := by
  obtain ⟨oc, od, dV, kV, doc, pm, an, cdv, ct, osl, rfl, lk, hcd, _, _⟩ := F.ex
  refine ⟨len, fun A outer s H args us vs Q E p hr hot hpin e0 hb r hsp => ?_⟩
  have KX : K.In s.heap := e0.mod.kin.keeps fun b o e => (e0.bs b o e).1
  have lim : s.heap.NoLimit := e0.mod.nolimit.keeps fun b o e => (e0.bs b o e).1
  have hkind : ∀ y ∈ ps.zip us, scope.names.lookup y.1 = some .local ∨ (scope.names.lookup y.1 = some .cell ∧ ((cellsFrom (s.heap.objs.size + 1) scope.names []).lookup y.1).isSome = true) := fun ⟨n, v⟩ hy =>
    (S.par n (List.of_mem_zip hy).1).elim .inl fun q => .inr ⟨q, PySem.W.cellsFrom_some _ _ _ (.inl q)⟩
  refine codeAny_call_function hr.depth (KX _ _ lk) rfl S.co S.gen rfl (PySem.W.codeRec_of KX hcd) (hb _ _ _ _ (wpAny_newFunctionEnv_cells S.kind hkind fun env he s1 x => ?_))
  subst he
  refine ⟨lim.keeps x.toInCall.keep, codeAny_func ?_⟩
  obtain ⟨t, ht, hq⟩ := hbody cdv A outer s H vs Q E p hot (hr.deeper _) hsp
  have I : Inv (cxH CX P w K mg base N qual scope f cdv A outer s H E p) [] (L2.start N vs) H s1 := inv_startH S hpin e0 (len _ _ _ _ _ hsp) r x
  refine wpAny_mono (ht.run [] s1 (L2.start N vs) H _ I hq) (fun fl s' hs => ?_) fun e s' hs => hs
  have fin : ∀ {σ' : L2.St} {H' : Hp} {v : V} {u : Value}, Inv (cxH CX P w K mg base N qual scope f cdv A outer s H E p) [] σ' H' s' → RelV v u → Q v H' → CE outer P w H s Q u s' := fun {σ' H' v u} J rv q => ⟨v, H', J.os, J.bare, J.base, J.hok, rv, q⟩
  cases fl with
  | ret u => obtain ⟨v, σ', H', J, rv, q⟩ := hs; exact fin J rv q
  | next => obtain ⟨σ', H', J, q⟩ := hs; exact fin (v := V.non) (u := Value.none) J rfl q
  | brk => obtain ⟨_, _, _, q⟩ := hs; exact q.elim
  | cont => obtain ⟨_, _, _, q⟩ := hs; exact q.elim
theorem pe_callP {X : Cx} {CX : CXT} {k : Nat} {f : Addr} {fd : FuncData} {ps : List Str} {sp : (Addr × Obj) → Sp} {E : L2.St → XK} {x : Str} {q pos : Pos} {e : Expr} {es : List Expr} {t : TA} {p : Addr × Obj} (F : FnP X.prog X.w X.K X.mg X.base CX k f fd ps sp) (hr : RoomH k X.A) (hot : Hot1 X.A p) (hp : p ∈ X.pn) (hg : Gl X x) (hm : X.mg x = some (.ref f))
    (hk : PySem.W.keepIn X.K (.ref f) = true) (hb : Binds X.K fd ps []) (hx : ∀ σ, PassesAt CX X σ (E σ)) (ha : PA X (e :: es) t) (hdb : (x == ("__debug__" : Str)) = false) (he : starEach (e :: es) X.env = (false, eval e X.env) :: starEach es X.env) (hpl : (backTo pos (starEach es X.env)).any (·.1) = false) :
    PE X (.Call (.Name x q) (e :: es) [] pos) (fun σ H Q => t σ H fun vs H1 => sp p vs H1 Q (E σ)) := by
  refine ⟨fun pins s σ H Q I h => wpAny_Call_Name_kw (ld_glob I hg hm (PySem.W.callWith_K (h₀ := X.base) I.ok.mod.kin hk (thn (ha.run pos pins s σ H _ I h) fun us s1 ⟨vs, H1, I1, r, hsp⟩ => ⟨I1.kIn, ?_⟩) he hpl) hdb)⟩
  have b := hb s1 us I1.kIn (by rw [List.append_nil, ← r.length]; exact F.len _ _ _ _ _ hsp)
  rw [List.append_nil] at b
  have P1 := I1.pin p (List.mem_append_left _ hp)
  refine wpAny_call (codeAny_mono (F.run X.A X.stack s1 H1 ⟨us, []⟩ us vs Q (E σ) p hr hot ⟨P1.1, P1.2.1, fun hm => (List.mem_cons.mp (I1.stkSub p.1 hm)).elim P1.2.2.1 P1.2.2.2.1, P1.2.2.2.2⟩ I1.env0 b r hsp) fun r s' hq => ?_)
  cases r with
  | error e => exact hx σ pins H1 s1 e s' I1 hq
  | ok fl =>
    cases fl with
    | ret u => exact I1.after hq
    | next => exact hq.elim
    | brk => exact hq.elim
    | cont => exact hq.elim
end Tw
end
section
/-! set(xs) where xs is a tuple of tuples of ints. -/
namespace Tw
open PySem PySem.Spec PyProof.Rows L2 TS
/-- a set as it is made -/
def set0 (w : World) : Obj := { cls := .type "set", dict := none, data := .set #[] 0 (.fresh 0 0 (!w.params.followText "set-order")) }
section
variable {P : Program} {w : World} {A : Around} {E : Value → Shared → Prop} {s : Shared}
theorem nothing_at {g : Heap} {b : Addr} (hb : g.objs.size ≤ b) : g.get? b = none := by
  cases q : g.get? b with
  | none => rfl
  | some o => exact (Nat.not_lt.mpr hb (Heap.lt_size q)).elim
/-- the new set takes in the rows of a tuple -/
theorem init_tupT {g : Heap} {S l : Addr} {rows : Array Value} {ks : List (Addr × List Int)} {Q : PySem.Fin → Shared → Prop} (hh : A.handled = none) (hu : A.in1.units < cLine) (hn : ks.length < 64) (hS : s.heap.get? S = some (set0 w)) (hg : g.get? S = none) (hsz : ∀ b, s.heap.objs.size ≤ b → g.get? b = none)
    (hup : ∀ b o, g.get? b = some o → s.heap.get? b = some o) (hl : s.heap.IsTuple l rows) (hrow : rows.toList = ks.map fun p => Value.ref p.1) (hks : ∀ p ∈ ks, IsT P w g p.2 p.1)
    (fin : ∀ (g' : Heap) (tk : Nat) L es ep t, SetTR P w g' S L es ep t → Got ks ks.length L → (∀ b o, g.get? b = some o → g'.get? b = some o) → Q (.done (.ret .none)) { s with heap := g', toks := tk }) :
    wpAny (model P w) A (Builtin.«set.__init__» ⟨[.ref S, .ref l], []⟩) Q E s := by
  have size : rows.size = ks.length := by rw [← Array.length_toList, hrow, List.length_map]
  have ne : l ≠ S := fun z => by
    obtain ⟨o, ho, hc, _⟩ := hl
    rw [z, hS] at ho
    cases ho
    injection hc with hc
    exact absurd hc (by decide)
  have lS : l < s.heap.objs.size := Heap.lt_size hl.choose_spec.1
  have SS : S < s.heap.objs.size := Heap.lt_size hS
  have each : ∀ (i : Nat) (v : Value), rows[i]? = some v → ∃ p, ks[i]? = some p ∧ v = .ref p.1 := by
    intro i v hv
    have z : (ks.map fun p => Value.ref p.1)[i]? = some v := by rw [← hrow, Array.getElem?_toList, hv]
    rw [List.getElem?_map] at z
    obtain ⟨p, e1, e2⟩ := Option.map_eq_some_iff.mp z
    exact ⟨p, e1, e2.symm⟩
  have hT : s.TypeIs (.ref S) "set" := ⟨_, hS, rfl⟩
  obtain ⟨o, ho, hc, nn, hd⟩ := id hl
  obtain ⟨oc, od, odt, osl⟩ := o
  have hc : oc = .type "tuple" := hc
  have hd : odt = .seq rows nn := hd
  subst hc hd
  have f1 := F.sub_tuple_set
  have f2 := F.sub_tuple_frozenset
  have f3 : (Value.type "tuple" == Value.type "dict") = false := by decide
  have hS' : s.heap.get? S = some { cls := .type "set", dict := none, data := .set #[] 0 (.fresh 0 0 (!w.params.followText "set-order")) } := hS
  unfold Builtin.«set.__init__» noKeywords Builtin.Frozenset.updateFrom
  generalize pit : pyIter = PI
  wp_walk
  subst pit
  refine wpAny_pyIter_tuple hl (wpAny_bind (wpAny_runValue ?_))
  have h3 : A.in1.handled = none := by simp [hh]
  have apart : S ∉ [s.heap.objs.size, l] := by
    intro z
    rcases List.mem_cons.mp z with z | z
    · exact absurd SS (by rw [z]; exact Nat.lt_irrefl _)
    · exact ne (List.mem_singleton.mp z).symm
  refine set_update_tups (Walks.tuple h3 _ l (Nat.ne_of_lt lS) rows).toS S apart ks size hn each g hks hg (fun b hb => hsz b (Nat.le_of_eq (List.mem_singleton.mp hb).symm)) hu _ 0 _ rfl (Nat.zero_le _) ⟨⟨_, Heap.get?_push_size _ rfl, rfl, rfl⟩, hl.push _⟩
    (fun b o q => Heap.get?_push_of_some _ (hup b o q)) ⟨[], #[], 0, _, setTR_fresh (Heap.get?_push_of_some _ hS), Got.zero ks⟩ fun s' L es ep t mv st got kp => ?_
  rw [size] at got
  obtain ⟨g', gg, dd, tk, oo⟩ := s'
  obtain rfl : gg = s.gens := mv.gens
  obtain rfl : dd = s.drawn := mv.drawn
  obtain rfl : oo = s.os := mv.os
  exact wpAny_pure (wpAny_pure (fin g' tk L es ep t st got kp))
/-- set(x), by what its __init__ does -/
theorem set_call {x : Value} {Q : Value → Shared → Prop}
    (h : wpAny (model P w) A.in1.in1 (Builtin.«set.__init__» ⟨[.ref s.heap.objs.size, x], []⟩) (fun r s' => r = .done (.ret .none) ∧ Q (.ref s.heap.objs.size) s') E { s with heap := s.heap.push (set0 w) }) :
    wpAny (model P w) A (call (.type "set") [x]) Q E s := by
  obtain ⟨c, tl, m1⟩ := F.called_set.mro
  have m2 := F.called_set.made
  have m3 := F.called_set.sub
  have m4 := F.called_set.notType
  have m5 := F.called_set.canCreate
  have m6 := F.typeCall_set_1 x
  have m7 := F.called_set.init.lookup
  have m8 := F.called_set.init.bind (.ref s.heap.objs.size)
  have new : (Shared.mk (s.heap.push (set0 w)) s.gens s.drawn s.toks s.os).TypeIs (.ref s.heap.objs.size) "set" := ⟨_, Heap.get?_push_size _ rfl, rfl⟩
  refine wpAny_call (codeAny_of_tree ?_)
  show wpAny _ _ (callAny (.type "set") ⟨[x], []⟩) _ _ _
  refine wpAny_pure ⟨Code.quiet_builtin _ (by decide +kernel), codeAny_builtin F.entry_type_call ?_⟩
  rw [Around.under_plain (weight_type_call_type "set" [x] []) rfl]
  repeat (any_goals (first | assumption | wp_step))
  refine codeAny_mono (code_set_led1 x (E := E) (Q₁ := fun v s1 => v = .ref s.heap.objs.size ∧ s1 = { s with heap := s.heap.push (set0 w) }) ⟨rfl, rfl⟩) fun r s1 hr => ?_
  rcases r with e | (_ | _ | _ | v) <;> first | exact hr | exact hr.elim | skip
  obtain ⟨e1, e2⟩ := hr
  subst e1 e2
  repeat (any_goals (first | assumption | wp_step))
  refine codeAny_mono (R := wants (fun r s2 => r = .none ∧ Q (.ref s.heap.objs.size) s2) E) (codeAny_call_builtin F.called_set.init.plain F.entry_set_init (check_set_init_1 new (wpAny_mono h (fun r s' q => ?_) fun e s' q => q))) fun r s2 hr => ?_
  · obtain ⟨rfl, q⟩ := q
    exact ⟨rfl, q⟩
  · rcases r with e | (_ | _ | _ | v) <;> first | exact hr | exact hr.elim | skip
    obtain ⟨rfl, q⟩ := hr
    repeat (any_goals (first | assumption | wp_step))
/-- set(xs) -/
theorem set_tupT {l : Addr} {rows : Array Value} {ks : List (Addr × List Int)} {Q : Value → Shared → Prop} (hh : A.handled = none) (hu : A.units + 4 < cLine) (hn : ks.length < 64) (hl : s.heap.IsTuple l rows) (hrow : rows.toList = ks.map fun p => Value.ref p.1) (hks : ∀ p ∈ ks, IsT P w s.heap p.2 p.1)
    (fin : ∀ (g' : Heap) (tk : Nat) L es ep t, SetTR P w g' s.heap.objs.size L es ep t → Got ks ks.length L → (∀ b o, s.heap.get? b = some o → g'.get? b = some o) → Q (.ref s.heap.objs.size) { s with heap := g', toks := tk }) :
    wpAny (model P w) A (call (.type "set") [.ref l]) Q E s :=
  set_call (init_tupT (g := s.heap) (ks := ks) (by simp [hh]) (by show A.units + 1 + 1 + 1 < cLine; omega) hn (Heap.get?_push_size _ rfl) (nothing_at (Nat.le_refl _)) (fun b hb => nothing_at (by
    have hb : (s.heap.push (set0 w)).objs.size ≤ b := hb
    rw [Heap.size_push] at hb; omega)) (fun b o q => Heap.get?_push_of_some _ q) (hl.push _) hrow hks
    fun g' tk L es ep t st got kp => ⟨rfl, fin g' tk L es ep t st got kp⟩)
end
section
variable {X : Cx}
/-- set of a list or of a tuple -/
def rSet2 (K : PySem.W.Frag) (P : Program) (w : World) : List V → Hp → VK → Prop := fun xs H Q => ∃ (l : Addr) (ks : List (Addr × List Int)), xs = [V.ref l] ∧ (SqL K H l (ks.map fun p => V.ref p.1) ∨ SqT K H l (ks.map fun p => V.ref p.1)) ∧ (∀ p ∈ ks, SqT K H p.1 (p.2.map V.int)) ∧ ks.length < 64 ∧
  ∀ a L, H a = none → (∀ p ∈ L, p ∈ ks) → (∀ p ∈ ks, p.2 ∈ L.map (·.2)) → Q (.ref a) (upd H a (SetTO P w a L))
theorem cr_set2 (hc : X.calm = true) (hu : X.A.units + 64 < cLine) : CallR X (.type "set") (rSet2 X.K X.prog X.w) := by
  intro pins s σ H xs us Q I r ⟨l, ks, e, hl, hk, hn, q⟩
  subst e
  rcases hl with hl | hl
  · exact cr_setOfT hc hu pins s σ H _ us Q I r ⟨l, ks, rfl, hl, hk, hn, q⟩
  · obtain ⟨rows, rv, pt, _⟩ := I.tuple hl
    rw [Vals.ref1 r]
    refine set_tupT (I.ok.hd hc) (by omega) hn pt (by simpa using refs_of_vals rv) (fun p hp => I.isT (hk p hp)) fun g' tk L es ep t st got kp => ?_
    exact ⟨.ref _, _, I.laid (t' := tk) kp (Nat.le_refl _) (setTO_new st.t0), rfl, q _ L (I.hok.fresh (Nat.le_refl _)) (fun p hp => List.mem_of_mem_take (got.sub p hp)) fun p hp => got.all p (by rw [List.take_length]; exact hp)⟩
end
end Tw
end
section
set_option maxHeartbeats 2000000
/-! An own exception class behind own classes and ValueError, whose __init__ says super().__init__(a text) and stores one field. -/
namespace Tw
open PySem PySem.W PySem.Calls PyProof.Rows
section
variable {prog : Program} {w : World} {A : Around} {E : Value → Shared → Prop} {h : Heap} {g : Array GenState} {d : Drawn} {t : Nat} {os : OsState}
variable {nm q : Str} {C N : Addr} {bs bm : List Value} {hdct : Bool} {sn : List Str} {sub : List Value} {ab : Bool} {col : Option Bool} {dd : Option Addr} {k0 k1 k2 k3 k5 : Option Value}
/-- ValueError's __init__, bound to e, called: e's arguments are laid anew -/
theorem bndW_call {u e t0 : Addr} {rest : List Value} {Q : Value → Shared → Prop} (hC : h.get? C = some (excClassObj nm q C N bs bm hdct sn sub ab col dd k0 k1 k2 k3 k5 "ValueError.__new__")) (he : h.get? e = some (HandSPX.excO C t0)) (hu : h.get? u = some (kxs_mw "ValueError.__init__" e)) (hrest : rest.length ≤ sizeLine)
    (fin : ∀ h' t1, (∀ b o, b ≠ e → h.get? b = some o → h'.get? b = some o) → h'.get? e = some (HandSPX.excO C t1) → Q .none ⟨h', g, d, t, os⟩) : wpAny (model prog w) A (call (.ref u) rest) Q E ⟨h, g, d, t, os⟩ := by
  refine wpAny_call (codeAny_of_tree ?_)
  show wpAny _ A.in1 (callAny (.ref u) ⟨rest, []⟩) _ _ _
  simp only [callAny]
  refine wpAny_bind (wpAny_load hu ?_)
  simp only [kxs_mw, show (Value.type "method-wrapper" == Value.type "method" || Value.type "method-wrapper" == Value.type "builtin_function_or_method" || Value.type "method-wrapper" == Value.type "method-wrapper") = true by decide, if_true]
  refine W.KFB.if_so (by decide) (wpAny_bind (ESX.check_bound F.excBase_ValueError hC he rfl (wpAny_bind (wpAny_pure (wpAny_pure ⟨Code.quiet_builtin _ (by decide +kernel), codeAny_builtin F.excBase_ValueError.initEntry ?_⟩)))))
  rw [Around.under_plainId F.excBase_ValueError.init.plain _]
  wp_walk
  exact fin _ h.objs.size (fun b o ne ho => (Heap.get?_update_other _ _ (Ne.symm ne)).trans (Heap.get?_push_of_some _ ho)) (by
    rw [Heap.get?_update_self _ (Heap.get?_push_of_some _ he) rfl]; rfl)
end
/-- what is known of such a class: its own __init__ at fI, the cell of its __class__ -/
structure TmK (prog : Program) (K : Frag) (C fI : Addr) (fd : FuncData) (f m : Str) (cc cda : Addr) (body : List Stmt) (ar : Arg) (l : List Value) (cd : ClassData) : Prop where
  fn : ∃ oc od osl, K.lookup fI = some ⟨oc, od, .func fd, osl⟩
  bd : fd.body = .stmts body
  co : fd.scope.isCoroutine = false
  ge : fd.scope.isGenerator = false
  kd : fd.scope.kind = .function
  sup : fd.scope.names.lookup ("super" : Str) = some .globalImplicit
  cls : fd.scope.names.lookup ("__class__" : Str) = some .free
  slf : fd.scope.names.lookup ("self" : Str) = some .local
  fld : fd.scope.names.lookup f = some .local
  noc : ∀ x ∈ fd.scope.names, x.2 ≠ .cell
  clo : fd.closure = [(("__class__" : Str), cc)]
  cod : fd.code = .ref cda
  rec_ : codeIn K fd.code fd.qualname = true
  glo : fd.globals = mainGlobals
  blt : fd.builtins = builtinsNs
  par : (fd.params.posonlyargs ++ fd.params.args).head? = some ar
  arn : ar.arg = ("self" : Str)
  cel : ∃ cl cld csl, K.lookup cc = some ⟨cl, cld, .cell (some (.ref C)), csl⟩
  cob : ∃ ccl cdd vs ccs file tf, K.lookup cda = some ⟨ccl, cdd, .fields vs, ccs⟩ ∧ vs[2]? = some (.str file tf) ∧ ((prog.main.file : Str) == file) = true
  top : (prog.main.scope.names.lookup ("super" : Str)).isSome = false
  cdC : clsIn K C = some cd
  mro : (cd.mro.dropWhile (· != .ref C)).drop 1 = l
  aln : alongIn K ("__init__" : Str) l = some (some (.builtin "ValueError.__init__"))
  sub : mroIn K C (.ref C) = some true
  isv : mroIn K C (.type "ValueError") = some true
  opq : nsIn K cStatics "thirdparty.any" = some none
  oex : L2.OexC K C
  nof : findIn K (.ref C) f = some none
  bnd : ∀ (s : Shared) (u v : Value), BindsTo s fd ⟨[u, v], []⟩ [(("self" : Str), u), (f, v)]
  nef : f ≠ ("self" : Str)
  dbf : (f == ("__debug__" : Str)) = false
section
variable {prog : Program} {w : World} {A : Around} {s : Shared} {R : Result → Shared → Prop} {K : Frag} {C fI cc cda e t0 : Addr} {fd : FuncData} {f m : Str} {ar : Arg} {l : List Value} {cd : ClassData} {mg mb : Str → Option Value} {v : Value}
/-- the __init__ walked -/
theorem tm_init {p0 p1 p2 p3 p4 p5 p6 p7 p8 p9 : Pos} {j : Nat}
    (T : TmK prog K C fI fd f m cc cda [.Expr (.Call (.Attribute (.Call (.Name "super" p0) [] [] p1) "__init__" p2) [.Constant (.str m) j p3] [] p4) p5, .Assign [.Attribute (.Name "self" p6) f p7] (.Name f p8) p9] ar l cd)
    (hl : (p2.endLine == p4.line) = true) (hd : A.depth < recursionLimit) (X : K.In s.heap) (G : s.heap.Ns mainGlobals mg) (hsup : mg "super" = none) (B : s.heap.Ns builtinsNs mb) (hb : ∀ x : Str, x ≠ "__name__" → mb x = bootBuiltins x) (hlim : s.heap.NoLimit) (he : s.heap.get? e = some (HandSPX.excO C t0)) (ne : K.lookup e = none)
    (fin : ∀ h' t1 dx tk', (∀ b o, b ≠ e → s.heap.get? b = some o → h'.get? b = some o) → s.heap.objs.size ≤ dx → dx ≠ e → h'.get? e = some { cls := .ref C, dict := some dx, data := .fields #[.ref t1, .none, .none, .none, .bool false, .none] } →
      h'.Ns1 dx (fun y => if y = f then some v else none) → R (.ok (.ret .none)) { s with heap := h', toks := tk' }) :
    codeAny (model prog w) A (.call (.ref fI) ⟨[.ref e, v], []⟩) R s := by
  obtain ⟨hp, g, d, t, os⟩ := s
  obtain ⟨oc, od, osl, hfI⟩ := T.fn
  refine ks_codeAny_call_defAt hd (X _ _ hfI) rfl hlim (codeRec_of X T.rec_) T.bd (T.bnd _ (.ref e) v) T.noc (fun y hy => ?_) (fun h0 hns hk => ?_) T.co T.ge T.kd
  · rcases List.mem_cons.mp hy with q | hy
    · rw [q]; exact T.slf
    · rw [List.mem_singleton.mp hy]; exact T.fld
  have X0 : K.In h0 := X.keeps hk
  obtain ⟨ccl, cdd, vs, ccs, file, tf, q1, q2, q3⟩ := T.cob
  obtain ⟨cl, cld, csl, q4⟩ := T.cel
  obtain ⟨nm, q, N, bs, bm, sn, sub, ab, col, dd, k0, k1, k2, k3, k5, hC, hbm⟩ := T.oex.cls
  have hC0 := X0 _ _ hC
  have eC : e ≠ C := fun z => by rw [z, hC] at ne; cases ne
  have e0 := hk _ _ he
  have eL : e ≠ hp.objs.size := Nat.ne_of_lt (Heap.lt_size he)
  obtain ⟨m0, hm0⟩ : ∃ m0 : Str → Option Value, m0 = fun y => ([(("self" : Str), Value.ref e), (f, v)] : List (Str × Value)).reverse.lookup y := ⟨_, rfl⟩
  have hns : h0.Ns hp.objs.size m0 := by rw [hm0]; exact hns
  have vself : m0 ("self" : Str) = some (.ref e) := by
    rw [hm0]
    show ([(f, v), (("self" : Str), Value.ref e)] : List (Str × Value)).lookup ("self" : Str) = _
    rw [List.lookup_cons]
    have : ((("self" : Str)) == f) = false := beq_eq_false_iff_ne.mpr (Ne.symm T.nef)
    rw [this]; rfl
  have vf : m0 f = some v := by
    rw [hm0]
    show ([(f, v), (("self" : Str), Value.ref e)] : List (Str × Value)).lookup f = _
    rw [List.lookup_cons, beq_self_eq_true]
  have hcd : cd = { name := nm, bases := bs, mro := .ref C :: bm, ns := N, qualname := q, hasDict := true, slotNames := sn, subclasses := sub, abstract := ab, collection := col, hasDel := false } := by
    have z := T.cdC
    unfold clsIn at z
    rw [hC] at z
    exact (Option.some.inj z).symm
  have second : ∀ (h3 : Heap) (t1 : Addr) (tk : Nat), (∀ b o, b ≠ e → hp.get? b = some o → h3.get? b = some o) → h3.get? e = some (HandSPX.excO C t1) → h3.Ns hp.objs.size m0 → hp.objs.size ≤ h3.objs.size →
      _root_.PySem.wpAt (model prog w) (A.deeper (callEnv fd hp.objs.size fI)) (.func [.Expr (.Call (.Attribute (.Call (.Name "super" p0) [] [] p1) "__init__" p2) [.Constant (.str m) j p3] [] p4) p5, .Assign [.Attribute (.Name "self" p6) f p7] (.Name f p8) p9] (callEnv fd hp.objs.size fI)) (execs [.Assign [.Attribute (.Name "self" p6) f p7] (.Name f p8) p9] (callEnv fd hp.objs.size fI))
        (fun f s' => R (.ok (.ret (match f with | .ret v => v | _ => .none))) s') (fun e s' => wpAny (model prog w) (A.deeper (callEnv fd hp.objs.size fI)) (leaving (callEnv fd hp.objs.size fI) e) (fun _ s'' => R (.error e) s'') (fun e' s'' => R (.error e') s'') s') ⟨h3, g, d, tk, os⟩ := fun h3 t1 tk k3 he3 hns3 hsz => by
    have X3 : K.In h3 := fun b o z => k3 b o (fun y => by rw [y, ne] at z; cases z) (X b o z)
    refine ks_wpAt_execs_cons (ks_wpAt_Assign_Attr (wpAt_of_wpAny (wpAny_Name (wpAny_loadName_local (env := callEnv fd hp.objs.size fI) (m := m0) T.kd T.fld hns3 vf (wpAny_Name (wpAny_loadName_local (env := callEnv fd hp.objs.size fI) (m := m0) T.kd T.slf hns3 vself ?_) (by decide))) T.dbf)) rfl)
    refine PySem.W.set_plain X3 (ox := { cls := .ref C, dict := none, data := .fields #[.ref t1, .none, .none, .none, .bool false, .none] }) (od := none) ⟨he3, rfl, rfl, trivial⟩ T.oex.sa ?_
    refine PySem.HandSPX.exc_osa X3 he3 T.cdC (by rw [hcd]; exact hbm) (by rw [hcd]) T.nof fun h' tk' dx k dn dne hx hn => ?_
    exact wpAt_of_wpAny (wpAny_execs_nil (fin h' t1 dx tk' (fun b o nb z => k b o nb (k3 b o nb z)) (Nat.le_trans hsz dn) dne hx hn))
  have env := callEnv fd hp.objs.size fI
  obtain ⟨oD, hD1, hD2⟩ : ∃ oD, h0.get? C = some oD ∧ oD.data = .cls cd := ⟨_, hC0, by rw [hcd] <;> rfl⟩
  have cell : (callEnv fd hp.objs.size fI).cells.lookup ("__class__" : Str) = some cc := by
    show fd.closure.lookup ("__class__" : Str) = some cc
    rw [T.clo]; rfl
  have sz0 : hp.objs.size < h0.objs.size := hns.lt
  have hev : eval (.Call (.Attribute (.Call (.Name "super" p0) [] [] p1) "__init__" p2) [.Constant (.str m) j p3] [] p4) (callEnv fd hp.objs.size fI) = (do
      let ov ← attributeBase (.Call (.Name "super" p0) [] [] p1) "__init__" (callEnv fd hp.objs.size fI) (eval (.Call (.Name "super" p0) [] [] p1) (callEnv fd hp.objs.size fI))
      standAt p2.atName
      let (f, first) ← holding [ov] (getMethod ov "__init__" (L2.plainOf (.Call (.Name "super" p0) [] [] p1) (callEnv fd hp.objs.size fI)))
      callWith p4 f first (backTo p4 (starEach [.Constant (.str m) j p3] (callEnv fd hp.objs.size fI))) []) := by
    rw [arm_eval_Call]
    have z := fun ov => L2.mcall_line (o := .Call (.Name "super" p0) [] [] p1) (m := "__init__") (apos := p2) (pos := p4) (env := callEnv fd hp.objs.size fI) (ov := ov) (n := 1) (args := backTo p4 (starEach [.Constant (.str m) j p3] (callEnv fd hp.objs.size fI))) (kws := []) rfl hl
    exact congrArg (fun k : Value → Sem Value => (do
      let ov ← attributeBase (.Call (.Name "super" p0) [] [] p1) "__init__" (callEnv fd hp.objs.size fI) (eval (.Call (.Name "super" p0) [] [] p1) (callEnv fd hp.objs.size fI))
      standAt p2.atName
      k ov)) (funext z)
  have hin : interactive (callEnv fd hp.objs.size fI) = false := by
    unfold interactive
    simp [callEnv, newEnv, T.kd]
  refine ks_wpAt_execs_cons (ks_wpAt_Expr_any (ks_wpAt_MethodCall (pl := L2.plainOf (.Call (.Name "super" p0) [] [] p1) (callEnv fd hp.objs.size fI)) (ks_wpAt_super_base (env := callEnv fd hp.objs.size fI) T.sup T.cls (by decide) rfl (X0 _ _ hfI) rfl T.par T.cod (X0 _ _ q1) rfl q2 q3 T.top ?_) hev) hin rfl)
  refine ks_loadName_global (env := callEnv fd hp.objs.size fI) T.kd T.sup (loadGlobal_builtin (env := callEnv fd hp.objs.size fI) (mg := mg) (mb := mb) (by show h0.Ns fd.globals mg; rw [T.glo]; exact G.keeps hk) hsup (by show h0.Ns fd.builtins mb; rw [T.blt]; exact B.keeps hk) ((hb _ (by decide +kernel)).trans (show bootBuiltins ("super" : Str) = some (.type "super") by decide +kernel)) ⟨rfl, ?_⟩)
  refine wpAny_loadName_free (env := callEnv fd hp.objs.size fI) T.kd T.cls cell ⟨_, X0 _ _ q4, rfl⟩ ?_
  rw [T.arn]
  refine wpAny_loadName_local (env := callEnv fd hp.objs.size fI) (m := m0) T.kd T.slf hns vself ?_
  refine ks_wpAny_isType_cls hD1 hD2 ⟨rfl, ?_⟩
  refine ks_wpAny_call_super hD1 hD2 e0 rfl (fun c z => nomatch z) (looks_mroIn X0 T.sub) fun h1 so k1 => ?_
  have X1 : K.In h1 := X0.keeps k1
  have e1 := k1 _ _ e0
  have IA : InstAt h1 e (HandSPX.excO C t0) C none := ⟨e1, rfl, rfl, trivial⟩
  have mr : Looks (model prog w) h1 (mroOf (.ref C)) cd.mro := (looks_clsIn X1 T.cdC).andThen .now
  refine kxs_getMethod kxs_ValueError so (looks_opaque X1 T.opq) mr T.mro X1 T.aln (IA.type.andThen (looks_mroIn X1 T.isv)) eC (by decide) ?_
  refine kxs_callWith (i := "ValueError.__init__") (x := e) rfl ?_
  show wpAny _ _ (evalArgs (.ref h1.objs.size) true [(false, eval (.Constant (.str m) j p3) (callEnv fd hp.objs.size fI))] []) _ _ _
  refine evalArgs_plain (spliced_cons (Calls.Constant_str (k := j) (pos := p3) (spliced_nil ?_)))
  have e2 : (h1.push (kxs_mw "ValueError.__init__" e)).get? e = some (HandSPX.excO C t0) := Heap.get?_push_of_some _ e1
  have X2 : K.In (h1.push (kxs_mw "ValueError.__init__" e)) := X1.keeps fun b o z => Heap.get?_push_of_some _ z
  have u2 : (h1.push (kxs_mw "ValueError.__init__" e)).get? h1.objs.size = some (kxs_mw "ValueError.__init__" e) := Heap.get?_push_size _ rfl
  refine ⟨u2, bndW_call (X2 _ _ hC) e2 u2 (by show 1 ≤ sizeLine; rw [sizeLine_eq]; omega) fun h3 t1 k3 he3 => ?_⟩
  have up : ∀ b o, b ≠ e → h0.get? b = some o → h3.get? b = some o := fun b o nb z => k3 b o nb (Heap.get?_push_of_some _ (k1 _ _ z))
  have hns3 : h3.Ns hp.objs.size m0 := by
    obtain ⟨oL, es, ep, hL, r⟩ := hns
    exact ⟨oL, es, ep, up _ _ (Ne.symm eL) hL, r⟩
  exact second h3 t1 _ (fun b o nb z => up b o nb (hk _ _ z)) he3 hns3 (Nat.le_of_lt hns3.lt)
end
section
open L2
variable {X : Cx} {C fI cc cda : Addr} {fd : FuncData} {f m : Str} {ar : Arg} {l : List Value} {cd : ClassData}
/-- C(e): the error made, with its field -/
theorem pmk_tm {p0 p1 p2 p3 p4 p5 p6 p7 p8 p9 : Pos} {j : Nat} {x : Str} {e : Expr} {te : TE} {p pos : Pos}
    (T : TmK X.prog X.K C fI fd f m cc cda [.Expr (.Call (.Attribute (.Call (.Name "super" p0) [] [] p1) "__init__" p2) [.Constant (.str m) j p3] [] p4) p5, .Assign [.Attribute (.Name "self" p6) f p7] (.Name f p8) p9] ar l cd)
    (hl : (p2.endLine == p4.line) = true) (iC : PySem.W.findIn X.K (.ref C) "__init__" = some (some (.ref fI))) (tI : PySem.W.typeIn X.K (.ref fI) = some (.type "function")) (hr : Room 1 X.A) (hsup : X.mg "super" = none) (hg : Gl X x) (hm : X.mg x = some (.ref C)) (ha : PE X e te)
    (hdb : (x == ("__debug__" : Str)) = false) (hs : starEach [e] X.env = (false, eval e X.env) :: starEach [] X.env) :
    L2N.PMk X (.Call (.Name x p) [e] [] pos) (fun σ H Q => te σ H fun v H1 => ∀ dd, H1 dd = none → Q (.ref C) (some dd) (upd H1 dd (.xd [(f, v)]))) := by
  intro pins s σ H Q I h
  obtain ⟨nm, q, N, bs, bm, sn, sub, ab, col, dd, k0, k1, k2, k3, k5, hC, hbm⟩ := T.oex.cls
  refine wpAny_Call_Name_kw (ld_glob I hg hm ?_ hdb)
  have h' : tCons te tNil σ H (fun vs H1 => match vs with
    | [v] => ∀ dd, H1 dd = none → Q (.ref C) (some dd) (upd H1 dd (.xd [(f, v)]))
    | _ => False) := h
  refine PySem.W.callWith_K (h₀ := X.base) I.ok.mod.kin T.oex.kC (thn ((pa_cons ha pa_nil hs).run pos pins s σ H _ I h') fun us s1 ⟨vs, H1, I1, r1, q1⟩ => ⟨I1.kIn, ?_⟩) hs rfl
  show wpAny _ _ (call (.ref C) us) _ _ _
  obtain ⟨v, u, ev, eu, rv⟩ : ∃ v u, vs = [v] ∧ us = [u] ∧ RelV v u := by
    cases r1 with
    | nil => exact q1.elim
    | cons ru rr =>
      cases rr with
      | nil => exact ⟨_, _, rfl, rfl, ru⟩
      | cons _ _ => exact q1.elim
  subst ev eu
  obtain ⟨hp, g, dr, tk, os⟩ := s1
  have q1 : ∀ dd, H1 dd = none → Q (.ref C) (some dd) (upd H1 dd (.xd [(f, v)])) := q1
  have kk : ∀ b o, hp.get? b = some o → ((hp.push (PySem.W.kdv_tup [u])).push (PySem.HandSPX.excO C hp.objs.size)).get? b = some o := fun b o z => Heap.get?_push_of_some _ (Heap.get?_push_of_some _ z)
  have hget : ((hp.push (PySem.W.kdv_tup [u])).push (PySem.HandSPX.excO C hp.objs.size)).get? (hp.objs.size + 1) = some (PySem.HandSPX.excO C hp.objs.size) := by heap_get
  have hup : ∀ b o, X.base.get? b = some o → ((hp.push (PySem.W.kdv_tup [u])).push (PySem.HandSPX.excO C hp.objs.size)).get? b = some o := fun b o z => kk b o (I1.bk b o z)
  have neK : X.K.lookup (hp.objs.size + 1) = none := by
    cases z : X.K.lookup (hp.objs.size + 1) with
    | none => rfl
    | some o => exact absurd (Heap.lt_size (I1.kIn _ _ z)) (by show ¬ hp.objs.size + 1 < hp.objs.size; omega)
  obtain ⟨mb, B, hb⟩ := I1.mod.blt
  refine wpAny_call (PySem.HandSPX.call_own F.excBase_ValueError (fun Y => PySem.HandSPX.refsVE_contains Y bm hbm) (I1.kIn _ _ hC) (PySem.W.looks_findIn I1.kIn iC) (fun self => PySem.W.bind_fn I1.kIn self tI) (by show 1 ≤ sizeLine; rw [sizeLine_eq]; omega) ?_)
  refine tm_init (mg := X.mg) (mb := mb) T hl (hr.make C [u] []).depth (I1.kIn.keeps kk) (I1.mod.glob.keeps hup) hsup (B.keeps hup) hb (I1.mod.nolimit.keeps hup) hget neK fun h2 t1 dx tk' k2' hdx dne he2 hns2 => ?_
  refine ⟨rfl, ?_⟩
  have hsz : hp.objs.size ≤ dx := Nat.le_trans (by rw [Heap.size_push, Heap.size_push]; omega) hdx
  have nd : H1 dx = none := I1.hok.fresh hsz
  have na : H1 (hp.objs.size + 1) = none := I1.hok.fresh (Nat.le_succ _)
  obtain ⟨G, g1, g2⟩ := restrict h2 fun b => decide (b ≠ hp.objs.size + 1)
  have gk : ∀ b, b ≠ hp.objs.size + 1 → G.get? b = h2.get? b := fun b hb => g1 b (decide_eq_true hb)
  have ge : G.get? (hp.objs.size + 1) = none := g2 _ (by simp)
  have kG : ∀ b o, hp.get? b = some o → G.get? b = some o := fun b o z => by
    have nb : b ≠ hp.objs.size + 1 := Nat.ne_of_lt (Nat.lt_succ_of_lt (Heap.lt_size z))
    rw [gk b nb]; exact k2' b o nb (kk b o z)
  have GH : ∀ b o, G.get? b = some o → h2.get? b = some o := fun b o z => by
    by_cases nb : b = hp.objs.size + 1
    · rw [nb, ge] at z; cases z
    · rw [← gk b nb]; exact z
  have hnsG : G.Ns1 dx (fun y => if y = f then some u else none) := hns2.at fun o z => by rw [gk dx dne]; exact z
  have rel : ∀ y, RelO (([(f, v)] : List (Str × V)).lookup y) (if y = f then some u else none) := relO_put (fs := []) rv fun y => True.intro
  have J : Inv X pins σ (upd H1 dx (.xd [(f, v)])) ⟨G, g, dr, tk', os⟩ := I1.laid (t' := tk') kG hsz ⟨_, hnsG, rel⟩
  refine ⟨hp.objs.size + 1, _, _, ⟨G, g, dr, tk', os⟩, _, .ref C, some dx, rfl, J, GH, ge, he2, ⟨rfl, rfl, fun us z => ?_⟩, rfl, rfl, ?_, rfl, I1.bare, raises_own T.oex.exC T.oex.tyC, q1 dx nd⟩
  · cases z; rfl
  · rw [upd_ne (Ne.symm dne)]; exact na
end
end Tw
end
section
/-! Arguments bound, of a def with plain parameters. -/
namespace Tw
open PySem PySem.Spec PyProof.Rows L2
def plainA (a : Arguments) (ps : List Str) : Bool := a.posonlyargs.isEmpty && decide (a.args.map (·.arg) = ps) && a.vararg.isNone && a.kwonlyargs.isEmpty && a.kwarg.isNone && decide ps.Nodup
theorem look_zip : ∀ {ps : List Str} {us : List Value}, us.length = ps.length → ∀ {x : Str}, x ∈ ps → ((ps.zip us).lookup x).isSome = true
  | [], _, _, _, h => nomatch h
  | p :: ps, [], hl, _, _ => by cases hl
  | p :: ps, u :: us, hl, x, h => by
    rw [List.zip_cons_cons, List.lookup_cons]
    cases e : (x == p) with
    | true => rfl
    | false =>
      refine look_zip (by simpa using hl) ((List.mem_cons.mp h).resolve_left fun z => ?_)
      rw [z, beq_self_eq_true] at e; cases e
theorem fmc {α β : Type} {f h : α → Option β} : ∀ {l : List α}, (∀ n ∈ l, f n = h n) → l.filterMap f = l.filterMap h
  | [], _ => rfl
  | a :: l, e => by rw [List.filterMap_cons, List.filterMap_cons, e a (.head _), fmc fun n hn => e n (.tail _ hn)]
theorem fm_zip : ∀ {ps : List Str} {us : List Value}, ps.Nodup → us.length = ps.length → ps.filterMap (fun n => ((ps.zip us).lookup n).map fun x => (n, x)) = ps.zip us
  | [], _, _, _ => by simp
  | p :: ps, [], _, hl => by cases hl
  | p :: ps, u :: us, nd, hl => by
    obtain ⟨h1, h2⟩ := List.nodup_cons.mp nd
    rw [List.zip_cons_cons, List.filterMap_cons]
    have e : ((p, u) :: ps.zip us).lookup p = some u := by rw [List.lookup_cons, beq_self_eq_true]
    rw [e]
    show (p, u) :: _ = _
    congr 1
    refine (fmc fun n hn => ?_).trans (fm_zip h2 (show us.length = ps.length by simpa using hl))
    rw [List.lookup_cons]
    cases e : (n == p) with
    | true => exact (h1 (by rw [← beq_iff_eq.mp e]; exact hn)).elim
    | false => rfl
theorem bind_gen {fd : FuncData} {ps : List Str} (h : plainA fd.params ps = true) (hd : fd.defaults = .none) (us : List Value) (hl : us.length = ps.length) : bindArgs fd ⟨us, []⟩ = pure (ps.zip us) := by
  unfold plainA at h
  obtain ⟨name, qual, ⟨po, ar, va, ko, kd, kw, df⟩, body, scope, globals, closure, defaults, kwd, doc, mod, ann, code, ct, blt⟩ := fd
  simp only [Bool.and_eq_true, List.isEmpty_iff, decide_eq_true_eq, Option.isNone_iff_eq_none] at h
  obtain ⟨⟨⟨⟨⟨h1, h2⟩, h3⟩, h4⟩, h5⟩, h6⟩ := h
  have hd : defaults = .none := hd
  subst h1 h3 h4 h5 hd
  unfold bindArgs
  have e0 : notAStandIn .none = pure () := rfl
  have e1 : ¬ ps.length < us.length := by omega
  have e2 : ∀ l : List Str, l ⊆ ps → l.filter (fun n => ((ps.zip us).lookup n).isNone) = [] := fun l hs => by
    rw [List.filter_eq_nil_iff]
    intro n hn
    have := look_zip hl (hs hn)
    cases z : (ps.zip us).lookup n with
    | none => rw [z] at this; cases this
    | some v => exact Bool.false_ne_true
  simp [h2, seqItems?, e0, if_neg e1, fm_zip h6 hl, e2 ps (fun _ h => h)]
end Tw
end
section
set_option maxHeartbeats 2000000
/-! .. what is known of such a class, by a Bool. -/
namespace Tw
open PySem PySem.W PySem.Calls PyProof.Rows
def tmClsB (K : Frag) (C : Addr) : Bool := match K.lookup C with
  | some ⟨.type "type", _, .cls cd, sl⟩ => (match cd.mro, sl.toList with
    | .ref C' :: bm, [_, _, _, _, some (.builtin n), _] => C' == C && n == "ValueError.__new__" && !cd.hasDel && cd.hasDict && HandSPX.refsVE bm
    | _, _ => false)
  | _ => false
theorem tmCls_ok {K : Frag} {C : Addr} (h : tmClsB K C = true) : ∃ nm q N bs bm sn sub ab col dd k0 k1 k2 k3 k5, K.lookup C = some (excClassObj nm q C N bs bm true sn sub ab col dd k0 k1 k2 k3 k5 "ValueError.__new__") ∧ HandSPX.refsVE bm = true := by
  unfold tmClsB at h
  split at h
  · rename_i dd cd sl ho
    split at h
    · rename_i C' bm k0 k1 k2 k3 n k5 hm hs
      simp only [Bool.and_eq_true, beq_iff_eq, Bool.not_eq_true'] at h
      obtain ⟨⟨⟨⟨rfl, rfl⟩, hdel⟩, hdict⟩, ht⟩ := h
      obtain ⟨nm, bs, mro, ns, qn, hd, sn, sub, ab, col, del⟩ := cd
      dsimp only at hm hdel hdict
      subst hm hdel hdict
      obtain ⟨l⟩ := sl
      simp only at hs
      subst hs
      exact ⟨nm, qn, ns, bs, bm, sn, sub, ab, col, dd, k0, k1, k2, k3, k5, ho, ht⟩
    · cases h
  · cases h
def tmBodyB (f : Str) : FuncBody → Bool
  | .stmts [.Expr (.Call (.Attribute (.Call (.Name a _) [] [] _) b p2) [.Constant (.str _) _ _] [] p4) _, .Assign [.Attribute (.Name c _) d _] (.Name e _) _] =>
    decide (a = ("super" : Str)) && decide (b = ("__init__" : Str)) && (p2.endLine == p4.line) && decide (c = ("self" : Str)) && decide (d = f) && decide (e = f)
  | _ => false
theorem tm_bind {fd : FuncData} {f : Str} (h : plainA fd.params [("self" : Str), f] = true) (hd : fd.defaults = .none) (s : Shared) (u v : Value) : BindsTo s fd ⟨[u, v], []⟩ [(("self" : Str), u), (f, v)] :=
  BindsTo.of_eq (bind_gen h hd [u, v] rfl)
/-- all of it -/
def tmB (P : Program) (K : Frag) (C : Addr) (f : Str) : Bool := match findIn K (.ref C) "__init__" with
  | some (some (.ref fI)) => (match K.lookup fI with
    | some ⟨_, _, .func fd, _⟩ => (match fd.code, fd.closure, fd.params.posonlyargs ++ fd.params.args, clsIn K C with
      | .ref cda, [(y, cc)], ar :: _, some cd => (match K.lookup cc, K.lookup cda with
        | some ⟨_, _, .cell (some (.ref C')), _⟩, some ⟨_, _, .fields vs, _⟩ => (match (vs[2]? : Option Value) with
          | some (.str file _) => tmBodyB f fd.body && !fd.scope.isCoroutine && !fd.scope.isGenerator && (fd.scope.kind == .function) && decide (fd.scope.names.lookup ("super" : Str) = some .globalImplicit) && decide (fd.scope.names.lookup ("__class__" : Str) = some .free) &&
            decide (fd.scope.names.lookup ("self" : Str) = some .local) && decide (fd.scope.names.lookup f = some .local) && fd.scope.names.all (fun x => !(x.2 == .cell)) && decide (y = ("__class__" : Str)) && codeIn K fd.code fd.qualname && decide (fd.globals = mainGlobals) && decide (fd.builtins = builtinsNs) &&
            decide (ar.arg = ("self" : Str)) && decide (C' = C) && ((P.main.file : Str) == file) && !(P.main.scope.names.lookup ("super" : Str)).isSome && decide (alongIn K ("__init__" : Str) ((cd.mro.dropWhile (· != .ref C)).drop 1) = some (some (.builtin "ValueError.__init__"))) && decide (mroIn K C (.ref C) = some true) &&
            decide (mroIn K C (.type "ValueError") = some true) && decide (nsIn K cStatics "thirdparty.any" = some none) && tmClsB K C && decide (findIn K (.ref C) "__setattr__" = some (some (.builtin "object.__setattr__"))) && decide (subIn K (.ref C) (.type "BaseException") = some true) && decide (typeIn K (.ref C) = some (.type "type")) &&
            keepIn K (.ref C) && decide (findIn K (.ref C) f = some none) && plainA fd.params [("self" : Str), f] && (match fd.defaults with | .none => true | _ => false) && decide (f ≠ ("self" : Str)) && !(f == ("__debug__" : Str)) && decide (typeIn K (.ref fI) = some (.type "function"))
          | _ => false)
        | _, _ => false)
      | _, _, _, _ => false)
    | _ => false)
  | _ => false
/-- what is wanted -/
def TmOk (P : Program) (K : Frag) (C : Addr) (f : Str) : Prop := ∃ (fI cc cda : Addr) (fd : FuncData) (m : Str) (ar : Arg) (l : List Value) (cd : ClassData) (p0 p1 p2 p3 p4 p5 p6 p7 p8 p9 : Pos) (j : Nat),
  TmK P K C fI fd f m cc cda [.Expr (.Call (.Attribute (.Call (.Name "super" p0) [] [] p1) "__init__" p2) [.Constant (.str m) j p3] [] p4) p5, .Assign [.Attribute (.Name "self" p6) f p7] (.Name f p8) p9] ar l cd ∧
    (p2.endLine == p4.line) = true ∧ findIn K (.ref C) "__init__" = some (some (.ref fI)) ∧ typeIn K (.ref fI) = some (.type "function")
theorem tmB_ok {P : Program} {K : Frag} {C : Addr} {f : Str} (h : tmB P K C f = true) : TmOk P K C f := by
  unfold tmB at h
  split at h <;> first | contradiction | skip
  rename_i fI hi
  split at h <;> first | contradiction | skip
  rename_i oc od fd osl hf
  split at h <;> first | contradiction | skip
  rename_i cda y cc ar rest cd hcode hclo hpar hcd
  split at h <;> first | contradiction | skip
  rename_i c1 c2 C' c3 d1 d2 vs d3 hcc hcda
  split at h <;> first | contradiction | skip
  rename_i file tf hvs
  simp only [Bool.and_eq_true] at h
  obtain ⟨⟨⟨⟨⟨⟨⟨⟨⟨⟨⟨⟨⟨⟨⟨⟨⟨⟨⟨⟨⟨⟨⟨⟨⟨⟨⟨⟨⟨⟨⟨b1, b2⟩, b3⟩, b4⟩, b5⟩, b6⟩, b7⟩, b8⟩, b9⟩, b10⟩, b11⟩, b12⟩, b13⟩, b14⟩, b15⟩, b16⟩, b17⟩, b18⟩, b19⟩, b20⟩, b21⟩, b22⟩, b23⟩, b24⟩, b25⟩, b26⟩, b27⟩, b28⟩, b29⟩, b30⟩, b31⟩, b32⟩ := h
  have hbd : ∃ (m : Str) (p0 p1 p2 p3 p4 p5 p6 p7 p8 p9 : Pos) (j : Nat), fd.body = .stmts [.Expr (.Call (.Attribute (.Call (.Name "super" p0) [] [] p1) "__init__" p2) [.Constant (.str m) j p3] [] p4) p5, .Assign [.Attribute (.Name "self" p6) f p7] (.Name f p8) p9] ∧ (p2.endLine == p4.line) = true := by
    unfold tmBodyB at b1
    split at b1
    · rename_i a p0 p1 b p2 m j p3 p4 p5 c p6 d p7 e p8 p9 hb
      simp only [Bool.and_eq_true, decide_eq_true_eq] at b1
      obtain ⟨⟨⟨⟨⟨rfl, rfl⟩, z⟩, rfl⟩, rfl⟩, rfl⟩ := b1
      exact ⟨m, p0, p1, p2, p3, p4, p5, p6, p7, p8, p9, j, hb, z⟩
    · cases b1
  obtain ⟨m, p0, p1, p2, p3, p4, p5, p6, p7, p8, p9, j, hb, hl⟩ := hbd
  have e15 := of_decide_eq_true b15
  have e10 := of_decide_eq_true b10
  subst e15 e10
  refine ⟨fI, cc, cda, fd, m, ar, _, cd, p0, p1, p2, p3, p4, p5, p6, p7, p8, p9, j, ⟨⟨oc, od, osl, hf⟩, hb, by simpa using b2, by simpa using b3, eq_of_beq b4, of_decide_eq_true b5, of_decide_eq_true b6, of_decide_eq_true b7, of_decide_eq_true b8, fun x hx e => ?_, hclo, hcode, b11, of_decide_eq_true b12,
    of_decide_eq_true b13, by rw [hpar]; rfl, of_decide_eq_true b14, ⟨_, _, _, hcc⟩, ⟨_, _, _, _, _, _, hcda, hvs, b16⟩, by simpa using b17, hcd, rfl, of_decide_eq_true b18, of_decide_eq_true b19, of_decide_eq_true b20, of_decide_eq_true b21,
    ⟨tmCls_ok b22, of_decide_eq_true b23, of_decide_eq_true b24, of_decide_eq_true b25, b26⟩, of_decide_eq_true b27, tm_bind b28 ?_, of_decide_eq_true b30, by simpa using b31⟩, hl, hi, of_decide_eq_true b32⟩
  · have z := List.all_eq_true.mp b9 x hx
    rw [e] at z
    exact absurd z (by decide)
  · split at b29
    · assumption
    · cases b29
end Tw
end
section
/-! The plain evaluator: data, a slim syntax, what it means. No program of Python in sight. -/
namespace Tw
open PySem

/-- plain data; box: a thing that may change, by its number; fn: a def as a value; xc: the error that is in hand, its class by number -/
inductive D where
  | non | bl (b : Bool) | int (i : Int) | str (x : Str)
  | tup (xs : List D) | lst (xs : List D) | box (k : Nat) | fn (f : Nat) | xc (c : Nat)
  deriving Inhabited
inductive Bx where
  | lst (xs : List D)
  | ins (c : Nat) (fs : List (Str × D))
  deriving Inhabited
abbrev S := List Bx
/-- an error: its class by number, the limit that it bears -/
structure Xc where
  c : Nat
  lim : Option Int
inductive Out (α : Type) where
  | ok (a : α) (s : S) | ex (x : Xc) (s : S) | bad
def bnd {α β : Type} (m : Out α) (f : α → S → Out β) : Out β := match m with
  | .ok a s => f a s
  | .ex x s => .ex x s
  | .bad => .bad
def noex {α : Type} (m : Out α) : Out α := match m with
  | .ex _ _ => .bad
  | m => m
def opt {α : Type} (o : Option α) (s : S) : Out α := match o with
  | some a => .ok a s
  | none => .bad
@[simp] theorem bnd_ok {α β : Type} (a : α) (s : S) (f : α → S → Out β) : bnd (.ok a s) f = f a s := rfl
@[simp] theorem bnd_ex {α β : Type} (x : Xc) (s : S) (f : α → S → Out β) : bnd (.ex x s) f = .ex x s := rfl
@[simp] theorem bnd_bad {α β : Type} (f : α → S → Out β) : bnd (.bad) f = .bad := rfl
@[simp] theorem noex_ok {α : Type} (a : α) (s : S) : noex (.ok a s) = .ok a s := rfl
@[simp] theorem opt_some {α : Type} (a : α) (s : S) : opt (some a) s = .ok a s := rfl
@[simp] theorem opt_none {α : Type} (s : S) : opt (none : Option α) s = .bad := rfl

/-- a name's slot: not set, a value, a list that no one else knows -/
inductive Sl where
  | no | v (d : D) | own (xs : List D)
  deriving Inhabited
abbrev Rho := List Sl

/-! ### data as the library's data -/
mutual
def D.py : D → Option PyData
  | .non => some .none
  | .bl b => some (.bool b)
  | .int i => some (.int i)
  | .str x => some (.str x)
  | .tup xs => (pyAll xs).map .tuple
  | .lst xs => (pyAll xs).map .list
  | .box _ => none
  | .fn _ => none
  | .xc _ => none
def pyAll : List D → Option (List PyData)
  | [] => some []
  | x :: xs => match x.py, pyAll xs with
    | some d, some ds => some (d :: ds)
    | _, _ => none
end
def eqD (a b : D) : Option Bool := match a.py, b.py with
  | some x, some y => if SeqAt.shaped x && SeqAt.shaped y then some (PyData.eqv x y) else none
  | _, _ => none
/-- x in the items ys of a list or tuple -/
def inD (x : D) (ys : List D) : Option Bool := match x.py, pyAll ys with
  | some d, some ds => if SeqAt.shaped d && SeqAt.shaped (.list ds) then some (ds.any fun z => PyData.eqv z d) else none
  | _, _ => none
mutual
/-- up: x < y; else x > y. Of tuples each pair of items must be told -/
def ltG (up : Bool) : D → D → Option Bool
  | .int i, .int j => some (if up then decide (i < j) else decide (j < i))
  | .tup xs, .tup ys => ltL up xs ys
  | _, _ => none
def ltL (up : Bool) : List D → List D → Option Bool
  | [], [] => some false
  | [], _ :: _ => some up
  | _ :: _, [] => some (!up)
  | x :: xs, y :: ys => match eqD x y with
    | some true => ltL up xs ys
    | some false => match ltG up x y, ltL up xs ys with
      | some b, some _ => some b
      | _, _ => none
    | none => none
end
mutual
def dep : D → Nat
  | .tup xs => depL xs + 1
  | .lst xs => depL xs + 1
  | _ => 0
def depL : List D → Nat
  | [] => 0
  | x :: xs => max (dep x) (depL xs)
end
abbrev ltD : D → D → Option Bool := ltG true

/-! ### the slim syntax -/
inductive Bo where
  | add | sub | mul | fdiv | mod | pow
  deriving DecidableEq
inductive Co where
  | eq | ne | lt | le | gt | ge | is | isnot | in | notin
  deriving DecidableEq
inductive Ty where
  | non | bool | int | str | list | tuple
  deriving DecidableEq
inductive Bi where
  | len | all | any | min2 | max2 | min1 | max1 | sum | tuple | list | int | sorted | sset
  deriving DecidableEq
inductive Tg where
  | nm (i : Nat) | tp (is : List Nat)
  deriving DecidableEq
mutual
inductive E where
  | var (i : Nat) | non | bl (b : Bool) | int (i : Int) | str (x : Str)
  | gint (x : Str) (i : Int) | gfn (f : Nat)
  | bin (op : Bo) (a b : E) | neg (a : E)
  | cmp (op : Co) (a b : E) | ch2 (op op' : Co) (a b c : E) | ch3 (op op' op'' : Co) (a b c d : E)
  | nt (a : E) | an (a b : E) | or (a b : E) | ite (c a b : E)
  | tup (es : Es) | lst (es : Es)
  | idx (a i : E) | oidx (i : Nat) (j : E) | oln (i : Nat) | sl (a : E) (lo hi : Eo) | rev (a : E)
  | cal (f : Nat) (es : Es) | clv (i : Nat) (es : Es)
  | isi (ts : List Ty) (a : E) | set (a : E) | bi (b : Bi) (es : Es)
  | lc (own : List Nat) (tg : Tg) (it : It) (c : Eo) (e : E)
  | isx (a : E) (k : Nat) | isv (a : E) | spl (a : E) (x : Str) | jn (x : Str) (a : E) | trl (e : E)
inductive Es where
  | nil | cons (e : E) (es : Es)
inductive Eo where
  | no | so (e : E)
inductive It where
  | seq (e : E) | rng (es : Es) | enm (e : E) | zip (a b : E)
end
instance : Inhabited E := ⟨.non⟩
mutual
inductive St where
  | set (i : Nat) (e : E)
  | setO (i : Nat) (e : E)
  | unp (is : List Nat) (e : E)
  | par (is : List (Nat × Bool)) (es : Es)
  | app (i : Nat) (e : E) | sto (i : Nat) (j e : E) | stb (i : Nat) (j e : E)
  | ifs (c : E) (a b : Ss) | for (tg : Tg) (it : It) (body : Ss) | whl (c : E) (body : Ss)
  | ret (e : E) | retB (e : E) | rai (c : Nat) | rail (e : E) | exp (e : E)
  | frz (i : Nat) | nev
inductive Ss where
  | nil | cons (st : St) (sts : Ss)
end
instance : Inhabited St := ⟨.nev⟩
instance : Inhabited Ss := ⟨.nil⟩

/-! ### operations on data -/
def big : Nat := 1000000
def binD (op : Bo) (a b : D) : Option D := match op, a, b with
  | .add, .int i, .int j => some (.int (i + j))
  | .add, .str x, .str y => if x.length + y.length ≤ big then some (.str (x ++ y)) else none
  | .add, .tup xs, .tup ys => if xs.length + ys.length ≤ big then some (.tup (xs ++ ys)) else none
  | .add, .lst xs, .lst ys => if xs.length + ys.length ≤ big then some (.lst (xs ++ ys)) else none
  | .sub, .int i, .int j => some (.int (i - j))
  | .mul, .int i, .int j => if i.natAbs < 2 ^ 60 then some (.int (i * j)) else none
  | .mul, .lst xs, .int k => if k.natAbs ≤ big ∧ xs.length * k.toNat ≤ big then some (.lst (List.replicate k.toNat xs).flatten) else none
  | .fdiv, .int i, .int j => if j ≠ 0 ∧ j.natAbs < 1073741824 then some (.int (i.fdiv j)) else none
  | .mod, .int i, .int j => if j ≠ 0 then some (.int (i.fmod j)) else none
  | .pow, .int i, .int j => if 0 ≤ j ∧ j ≤ 1000 ∧ i.natAbs < 2 ^ 64 then some (.int (i ^ j.toNat)) else none
  | _, _, _ => none
def cmpD (op : Co) (a b : D) : Option Bool := match op, a, b with
  | .eq, a, b => eqD a b
  | .ne, a, b => (eqD a b).map (!·)
  | .lt, a, b => if dep a ≤ 64 then ltD a b else none
  | .gt, a, b => if dep a ≤ 64 then ltG false a b else none
  | .le, .int i, .int j => some (decide (i ≤ j))
  | .ge, .int i, .int j => some (decide (j ≤ i))
  | .is, .non, .non => some true
  | .is, _, .non => some false
  | .isnot, .non, .non => some false
  | .isnot, _, .non => some true
  | .in, x, .tup ys => inD x ys
  | .in, x, .lst ys => inD x ys
  | .notin, x, .tup ys => (inD x ys).map (!·)
  | .notin, x, .lst ys => (inD x ys).map (!·)
  | _, _, _ => none
/-- the place that an index of any sign means -/
def ixD (xs : List D) (i : Int) : Option D := L2.atI xs i
def idxD (a i : D) (s : S) : Option D := match a, i with
  | .tup xs, .int i => ixD xs i
  | .lst xs, .int i => ixD xs i
  | .box k, .int i => match s[k]? with
    | some (.lst xs) => ixD xs i
    | _ => none
  | _, _ => none
def cutD (xs : List D) (lo hi : Option Int) : List D := (xs.drop (HT.sIx xs.length 0 lo)).take (HT.sIx xs.length xs.length hi - HT.sIx xs.length 0 lo)
def slD (a : D) (lo hi : Option Int) : Option D := match a with
  | .tup xs => some (.tup (cutD xs lo hi))
  | .lst xs => some (.lst (cutD xs lo hi))
  | _ => none
def revD : D → Option D
  | .tup xs => some (.tup xs.reverse)
  | .lst xs => some (.lst xs.reverse)
  | _ => none
def tyD : D → S → Option Ty
  | .non, _ => some .non
  | .bl _, _ => some .bool
  | .int _, _ => some .int
  | .str _, _ => some .str
  | .tup _, _ => some .tuple
  | .lst _, _ => some .list
  | .box k, s => match s[k]? with
    | some (.lst _) => some .list
    | _ => none
  | .fn _, _ => none
  | .xc _, _ => none
def subTy (a b : Ty) : Bool := decide (a = b) || (decide (a = .bool) && decide (b = .int))
def blsD : List D → Option (List Bool)
  | [] => some []
  | .bl b :: xs => (blsD xs).map (b :: ·)
  | _ => none
def intsD : List D → Option (List Int)
  | [] => some []
  | .int i :: xs => (intsD xs).map (i :: ·)
  | _ => none
mutual
def ordD : D → Bool
  | .int _ => true
  | .tup xs => ordL xs
  | _ => false
def ordL : List D → Bool
  | [] => true
  | x :: xs => ordD x && ordL xs
end
mutual
/-- the order of ints and of tuples of such -/
def cmpT : D → D → Ordering
  | .int i, .int j => if i < j then .lt else if j < i then .gt else .eq
  | .tup xs, .tup ys => cmpTL xs ys
  | .int _, .tup _ => .lt
  | .tup _, .int _ => .gt
  | _, _ => .eq
def cmpTL : List D → List D → Ordering
  | [], [] => .eq
  | [], _ :: _ => .lt
  | _ :: _, [] => .gt
  | x :: xs, y :: ys => match cmpT x y with
    | .lt => .lt
    | .gt => .gt
    | .eq => cmpTL xs ys
end
def ltB (a b : D) : Bool := decide (cmpT a b = .lt)
def insD (x : D) : List D → List D
  | [] => [x]
  | y :: ys => if ltB y x then y :: insD x ys else x :: y :: ys
def sortD : List D → List D
  | [] => []
  | x :: xs => insD x (sortD xs)
def isInt : D → Bool
  | .int _ => true
  | _ => false
def headI : D → Bool
  | .tup (.int _ :: _) => true
  | _ => false
def headT : D → Bool
  | .tup (.tup _ :: _) => true
  | _ => false
/-- any two can be compared -/
def cmpAll (xs : List D) : Bool := xs.all fun x => ordD x && decide (dep x ≤ 64) && xs.all fun y => (ltD x y).isSome
def srtOk (xs : List D) : Bool := cmpAll xs && (xs.all isInt || xs.all headI || xs.all headT) && decide (xs.length ≤ big)
/-- rows of small ints, each once, by their codes -/
def keyD : D → Option (List Int)
  | .tup xs => intsD xs
  | _ => none
def keysD : List D → Option (List (List Int))
  | [] => some []
  | x :: xs => match keyD x, keysD xs with
    | some k, some ks => some (k :: ks)
    | _, _ => none
def insU (k : List Int) : List (List Int) → List (List Int)
  | [] => [k]
  | y :: ys => if k = y then y :: ys else if TS.code 64 k < TS.code 64 y then k :: y :: ys else y :: insU k ys
def sortU : List (List Int) → List (List Int)
  | [] => []
  | k :: ks => insU k (sortU ks)
def rowOf (k : List Int) : D := .tup (k.map .int)
def ssetD (xs : List D) : Option D := match keysD xs with
  | some [] => some (.lst [])
  | some (k :: ks) => if (k :: ks).length < 64 ∧ 0 < k.length ∧ ((k :: ks).all fun q => decide (q.length = k.length) && q.all fun i => decide (0 ≤ i) && decide (i < 64)) = true then some (.lst ((sortU (k :: ks)).map rowOf)) else none
  | none => none
def minL (m : Int) (xs : List Int) : Int := xs.foldl (fun a b => if b < a then b else a) m
def maxL (m : Int) (xs : List Int) : Int := xs.foldl (fun a b => if b > a then b else a) m
def biD (b : Bi) (xs : List D) (s : S) : Option D := match b, xs with
  | .len, [.tup xs] => some (.int xs.length)
  | .len, [.lst xs] => some (.int xs.length)
  | .len, [.str x] => if x.length ≤ big then some (.int x.length) else none
  | .all, [.lst xs] => (blsD xs).map fun bs => .bl (bs.all id)
  | .any, [.lst xs] => (blsD xs).map fun bs => .bl (bs.any id)
  | .min2, [.int i, .int j] => some (.int (if j < i then j else i))
  | .max2, [.int i, .int j] => some (.int (if j > i then j else i))
  | .min1, [.lst xs] => match intsD xs with
    | some (i :: is) => some (.int (minL i is))
    | _ => none
  | .max1, [.lst xs] => match intsD xs with
    | some (i :: is) => some (.int (maxL i is))
    | _ => none
  | .sum, [.lst xs] => (intsD xs).map fun is => .int is.sum
  | .tuple, [.lst xs] => some (.tup xs)
  | .tuple, [.tup xs] => some (.tup xs)
  | .list, [.lst xs] => some (.lst xs)
  | .list, [.tup xs] => some (.lst xs)
  | .int, [.int i] => some (.int i)
  | .sorted, [.lst xs] => if srtOk xs then some (.lst (sortD xs)) else none
  | .sorted, [.tup xs] => if srtOk xs then some (.lst (sortD xs)) else none
  | .sset, [.lst xs] => ssetD xs
  | .sset, [.tup xs] => ssetD xs
  | _, _ => none
/-- lo, lo + c, .. below (above) hi -/
def rangeD (xs : List D) : Option (List D) := match xs with
  | [.int j] => if j.natAbs ≤ big then some ((List.range j.toNat).map fun k => .int (k : Nat)) else none
  | [.int i, .int j] => if i.natAbs ≤ big ∧ j.natAbs ≤ big then some ((List.range (j - i).toNat).map fun k => .int (i + (k : Nat))) else none
  | [.int i, .int j, .int (-1)] => if i.natAbs ≤ big ∧ j.natAbs ≤ big then some ((List.range (i - j).toNat).map fun k => .int (i + (k : Nat) * (-1))) else none
  | _ => none
def seqD : D → Option (List D)
  | .tup xs => some xs
  | .lst xs => some xs
  | _ => none
def enmD : Nat → List D → List D
  | _, [] => []
  | k, x :: xs => .tup [.int (k : Nat), x] :: enmD (k + 1) xs
def zipD : D → D → Option (List D)
  | .tup xs, .tup ys => some (xs.zipWith (fun x y => .tup [x, y]) ys)
  | .lst xs, .lst ys => some (xs.zipWith (fun x y => .tup [x, y]) ys)
  | _, _ => none

/-! ### slots -/
def getR (r : Rho) (i : Nat) : Option D := match r[i]? with
  | some (.v d) => some d
  | _ => none
def setR (r : Rho) (i : Nat) (d : D) : Option Rho := if i < r.length then some (r.set i (.v d)) else none
def setRs : Rho → List Nat → List D → Option Rho
  | r, [], [] => some r
  | r, i :: is, d :: ds => (setR r i d).bind fun r => setRs r is ds
  | _, _, _ => none
def tgR (r : Rho) (t : Tg) (d : D) : Option Rho := match t with
  | .nm i => setR r i d
  | .tp is => match d with
    | .tup xs => setRs r is xs
    | _ => none
/-- a block's own names are forgotten -/
def wipeR (r : Rho) : List Nat → Rho
  | [] => r
  | i :: is => (wipeR r is).set i .no
def lcLoop (f : D → S → Out (Option D)) : List D → S → Out (List D)
  | [], s => .ok [] s
  | d :: ds, s => bnd (f d s) fun o s1 => bnd (lcLoop f ds s1) fun r s2 => .ok (match o with
    | some y => y :: r
    | none => r) s2
/-- how a statement ends -/
inductive Fl where
  | nx (r : Rho) | rt (d : D)
def forLoop (f : D → Rho → S → Out Fl) : List D → Rho → S → Out Fl
  | [], r, s => .ok (.nx r) s
  | d :: ds, r, s => bnd (f d r s) fun fl s1 => match fl with
    | .nx r1 => forLoop f ds r1 s1
    | .rt x => .ok (.rt x) s1
def whlLoop (c : Rho → S → Out D) (f : Rho → S → Out Fl) : Nat → Rho → S → Out Fl
  | 0, _, _ => .bad
  | n + 1, r, s => bnd (c r s) fun d s1 => match d with
    | .bl true => bnd (f r s1) fun fl s2 => match fl with
      | .nx r1 => whlLoop c f n r1 s2
      | .rt x => .ok (.rt x) s2
    | .bl false => .ok (.nx r) s1
    | _ => .bad
def chkB (d : D) : Option Bool := match d with
  | .bl b => some b
  | _ => none

/-! ### what an expression gives -/
abbrev Cl := Nat → List D → S → Out D
/-- the defs' calls, by how many may be within one another -/
abbrev Cs := Nat → Cl
def strsD : List D → Option (List Str)
  | [] => some []
  | .str x :: xs => (strsD xs).map (x :: ·)
  | _ => none
def splD (y : D) (x : Str) : Option D := match y with
  | .str a => if (x.length == 0) = false ∧ a.length ≤ big then some (.lst ((Txt.split a x).map .str)) else none
  | _ => none
def jnD (x : Str) (y : D) : Option D := match y with
  | .lst xs => match strsD xs with
    | some ys => if (ys.map (·.length)).sum + ys.length * x.length ≤ big then some (.str (Txt.join x ys)) else none
    | none => none
  | .tup xs => match strsD xs with
    | some ys => if (ys.map (·.length)).sum + ys.length * x.length ≤ big then some (.str (Txt.join x ys)) else none
    | none => none
  | _ => none
/-- the words of the errors' classes, by number -/
def kinW : Nat → Option Str
  | 0 => some "web +" | 1 => some "place +" | 2 => some "tie +" | 3 => some "weights +" | 4 => some "cover +" | 5 => some "pairs +"
  | 6 => some "text +" | 7 => some "notcalm +" | 8 => some "notfold +" | 9 => some "unlike +" | 10 => some "undo +" | 11 => some "many +"
  | _ => none
/-- what is told of a call that may end with an error -/
def triD (o : Out D) : Out D := match o with
  | .ok d s => .ok (.tup [.str "told", d]) s
  | .ex x s => match kinW x.c, x.lim with
    | some w, none => if x.c = 11 then .bad else .ok (.str w) s
    | some w, some i => if x.c = 11 then .ok (.tup [.str w, .int i]) s else .bad
    | none, _ => .bad
  | .bad => .bad
mutual
def evE (cs : Cs) (r : Rho) : E → Nat → S → Out D
  | .var i, n, s => opt (getR r i) s
  | .non, n, s => .ok .non s
  | .bl b, n, s => .ok (.bl b) s
  | .int i, n, s => .ok (.int i) s
  | .str x, n, s => .ok (.str x) s
  | .gint _ i, n, s => .ok (.int i) s
  | .gfn f, n, s => .ok (.fn f) s
  | .bin op a b, n, s => bnd (evE cs r a n s) fun x s1 => bnd (evE cs r b n s1) fun y s2 => opt (binD op x y) s2
  | .neg a, n, s => bnd (evE cs r a n s) fun x s1 => match x with
    | .int i => .ok (.int (-i)) s1
    | _ => .bad
  | .cmp op a b, n, s => bnd (evE cs r a n s) fun x s1 => bnd (evE cs r b n s1) fun y s2 => opt ((cmpD op x y).map .bl) s2
  | .ch2 op op' a b c, n, s => bnd (evE cs r a n s) fun x s1 => bnd (evE cs r b n s1) fun y s2 => match cmpD op x y with
    | some true => bnd (evE cs r c n s2) fun z s3 => opt ((cmpD op' y z).map .bl) s3
    | some false => .ok (.bl false) s2
    | none => .bad
  | .ch3 op op' op'' a b c d, n, s => bnd (evE cs r a n s) fun x s1 => bnd (evE cs r b n s1) fun y s2 => match cmpD op x y with
    | some true => bnd (evE cs r c n s2) fun z s3 => match cmpD op' y z with
      | some true => bnd (evE cs r d n s3) fun u s4 => opt ((cmpD op'' z u).map .bl) s4
      | some false => .ok (.bl false) s3
      | none => .bad
    | some false => .ok (.bl false) s2
    | none => .bad
  | .nt a, n, s => bnd (evE cs r a n s) fun x s1 => match x with
    | .bl b => .ok (.bl (!b)) s1
    | _ => .bad
  | .an a b, n, s => bnd (evE cs r a n s) fun x s1 => match x with
    | .bl true => bnd (evE cs r b n s1) fun y s2 => opt ((chkB y).map .bl) s2
    | .bl false => .ok (.bl false) s1
    | _ => .bad
  | .or a b, n, s => bnd (evE cs r a n s) fun x s1 => match x with
    | .bl true => .ok (.bl true) s1
    | .bl false => bnd (evE cs r b n s1) fun y s2 => opt ((chkB y).map .bl) s2
    | _ => .bad
  | .ite c a b, n, s => bnd (evE cs r c n s) fun x s1 => match x with
    | .bl true => evE cs r a n s1
    | .bl false => evE cs r b n s1
    | _ => .bad
  | .tup es, n, s => bnd (evEs cs r es n s) fun xs s1 => if xs.length ≤ big then .ok (.tup xs) s1 else .bad
  | .lst es, n, s => bnd (evEs cs r es n s) fun xs s1 => if xs.length ≤ big then .ok (.lst xs) s1 else .bad
  | .idx a i, n, s => bnd (evE cs r a n s) fun x s1 => bnd (evE cs r i n s1) fun y s2 => opt (idxD x y s2) s2
  | .oidx i j, n, s => match r[i]? with
    | some (.own xs) => bnd (evE cs r j n s) fun y s1 => match y with
      | .int k => opt (ixD xs k) s1
      | _ => .bad
    | some (.v x) => bnd (evE cs r j n s) fun y s1 => opt (idxD x y s1) s1
    | _ => .bad
  | .oln i, n, s => match r[i]? with
    | some (.own xs) => .ok (.int xs.length) s
    | some (.v x) => opt (biD .len [x] s) s
    | _ => .bad
  | .sl a lo hi, n, s => bnd (evE cs r a n s) fun x s1 => bnd (evO cs r lo n s1) fun l s2 => bnd (evO cs r hi n s2) fun h s3 => opt (slD x l h) s3
  | .rev a, n, s => bnd (evE cs r a n s) fun x s1 => opt (revD x) s1
  | .cal f es, n, s => bnd (evEs cs r es n s) fun xs s1 => cs n f xs s1
  | .clv i es, n, s => match r[i]? with
    | some (.v (.fn f)) => bnd (evEs cs r es n s) fun xs s1 => cs n f xs s1
    | _ => .bad
  | .isi ts a, n, s => bnd (evE cs r a n s) fun x s1 => opt ((tyD x s1).map fun t => .bl (ts.any fun u => subTy t u)) s1
  | .set a, n, s => bnd (evE cs r a n s) fun x s1 => opt (biD .sset [x] s1) s1
  | .bi b es, n, s => bnd (evEs cs r es n s) fun xs s1 => opt (biD b xs s1) s1
  | .lc own tg it c e, n, s => bnd (evI cs r it n s) fun xs s1 => if xs.length ≤ big then
    bnd (lcLoop (fun d s => match tgR (wipeR r own) tg d with
      | some r1 => bnd (evC cs r1 c n s) fun b s2 => if b then bnd (noex (evE cs r1 e n s2)) fun y s3 => .ok (some y) s3 else .ok none s2
      | none => .bad) xs s1) fun ys s2 => .ok (.lst ys) s2
    else .bad
  | .isx a k, n, s => bnd (evE cs r a n s) fun x s1 => match x with
    | .xc c => .ok (.bl (decide (c = k))) s1
    | _ => .bad
  | .isv a, n, s => bnd (evE cs r a n s) fun x s1 => match x with
    | .xc _ => .ok (.bl true) s1
    | _ => .bad
  | .spl a x, n, s => bnd (evE cs r a n s) fun y s1 => opt (splD y x) s1
  | .jn x a, n, s => bnd (evE cs r a n s) fun y s1 => opt (jnD x y) s1
  | .trl e, n, s => match n with
    | m + 2 => triD (evE cs r e m s)
    | _ => .bad
def evEs (cs : Cs) (r : Rho) : Es → Nat → S → Out (List D)
  | .nil, n, s => .ok [] s
  | .cons e es, n, s => bnd (evE cs r e n s) fun x s1 => bnd (evEs cs r es n s1) fun xs s2 => .ok (x :: xs) s2
/-- a slice's part -/
def evO (cs : Cs) (r : Rho) : Eo → Nat → S → Out (Option Int)
  | .no, n, s => .ok none s
  | .so e, n, s => bnd (evE cs r e n s) fun x s1 => match x with
    | .int i => .ok (some i) s1
    | _ => .bad
/-- a clause's test, in a block -/
def evC (cs : Cs) (r : Rho) : Eo → Nat → S → Out Bool
  | .no, n, s => .ok true s
  | .so e, n, s => bnd (noex (evE cs r e n s)) fun x s1 => opt (chkB x) s1
def evI (cs : Cs) (r : Rho) : It → Nat → S → Out (List D)
  | .seq e, n, s => bnd (evE cs r e n s) fun x s1 => opt (seqD x) s1
  | .rng es, n, s => bnd (evEs cs r es n s) fun xs s1 => opt (rangeD xs) s1
  | .enm e, n, s => bnd (evE cs r e n s) fun x s1 => opt ((seqD x).map (enmD 0)) s1
  | .zip a b, n, s => bnd (evE cs r a n s) fun x s1 => bnd (evE cs r b n s1) fun y s2 => opt (zipD x y) s2
end
/-- forms that make a new list -/
def frsh : E → Bool
  | .lst _ => true
  | .lc .. => true
  | .bi .list _ => true
  | _ => false
def lstOf : D → Option (List D)
  | .lst xs => some xs
  | _ => none
def setO (r : Rho) (i : Nat) (d : D) : Option Rho := (lstOf d).bind fun xs => if i < r.length then some (r.set i (.own xs)) else none
/-- several names at once, some of them with a new list of their own -/
def parR : Rho → List (Nat × Bool) → List D → Option Rho
  | r, [], [] => some r
  | r, (i, o) :: is, d :: ds => (if o then setO r i d else setR r i d).bind fun r => parR r is ds
  | _, _, _ => none
mutual
def exS (cs : Cs) : St → Nat → Rho → S → Out Fl
  | .set i e, n, r, s => bnd (evE cs r e n s) fun x s1 => opt ((setR r i x).map .nx) s1
  | .setO i e, n, r, s => bnd (evE cs r e n s) fun x s1 => opt ((setO r i x).map .nx) s1
  | .unp is e, n, r, s => bnd (evE cs r e n s) fun x s1 => opt ((tgR r (.tp is) x).map .nx) s1
  | .par is es, n, r, s => bnd (evEs cs r es n s) fun xs s1 => opt ((parR r is xs).map .nx) s1
  | .app i e, n, r, s => match r[i]? with
    | some (.own xs) => bnd (evE cs r e n s) fun x s1 => if xs.length < big then .ok (.nx (r.set i (.own (xs ++ [x])))) s1 else .bad
    | _ => .bad
  | .sto i j e, n, r, s => bnd (evE cs r e n s) fun x s1 => match r[i]? with
    | some (.own xs) => bnd (evE cs r j n s1) fun y s2 => match y with
      | .int k => match L2.ixN xs.length k with
        | some n => .ok (.nx (r.set i (.own (xs.set n x)))) s2
        | none => .bad
      | _ => .bad
    | _ => .bad
  | .stb i j e, n, r, s => bnd (evE cs r e n s) fun x s1 => match r[i]? with
    | some (.v (.box b)) => bnd (evE cs r j n s1) fun y s2 => match y, s2[b]? with
      | .int k, some (.lst xs) => match L2.ixN xs.length k with
        | some n => .ok (.nx r) (s2.set b (.lst (xs.set n x)))
        | none => .bad
      | _, _ => .bad
    | _ => .bad
  | .ifs c a b, n, r, s => bnd (evE cs r c n s) fun x s1 => match x with
    | .bl true => exSs cs a n r s1
    | .bl false => exSs cs b n r s1
    | _ => .bad
  | .for tg it body, n, r, s => bnd (evI cs r it n s) fun xs s1 => forLoop (fun d r s => match tgR r tg d with
    | some r1 => exSs cs body n r1 s
    | none => .bad) xs r s1
  | .whl c body, n, r, s => whlLoop (fun r s => evE cs r c n s) (fun r s => exSs cs body n r s) 1000 r s
  | .ret e, n, r, s => bnd (evE cs r e n s) fun x s1 => .ok (.rt x) s1
  | .retB e, n, r, s => bnd (evE cs r e n s) fun x s1 => match x with
    | .lst xs => .ok (.rt (.box s1.length)) (s1 ++ [.lst xs])
    | _ => .bad
  | .rai c, n, _, s => .ex ⟨c, none⟩ s
  | .rail e, n, r, s => match n with
    | 0 => .bad
    | m + 1 => bnd (evE cs r e (m + 1) s) fun x s1 => match x with
      | .int i => .ex ⟨11, some i⟩ s1
      | _ => .bad
  | .exp e, n, r, s => bnd (evE cs r e n s) fun _ s1 => .ok (.nx r) s1
  | .frz i, n, r, s => match r[i]? with
    | some (.own xs) => .ok (.nx (r.set i (.v (.lst xs)))) s
    | _ => .ok (.nx r) s
  | .nev, n, _, _ => .bad
def exSs (cs : Cs) : Ss → Nat → Rho → S → Out Fl
  | .nil, n, r, s => .ok (.nx r) s
  | .cons st sts, n, r, s => bnd (exS cs st n r s) fun fl s1 => match fl with
    | .nx r1 => exSs cs sts n r1 s1
    | .rt x => .ok (.rt x) s1
end
/-- a def: how many slots, how many of them parameters, its body -/
structure Df where
  n : Nat
  p : Nat
  body : Ss
  deriving Inhabited
def startR (d : Df) (xs : List D) : Rho := xs.map .v ++ List.replicate (d.n - d.p) .no
/-- the defs' calls, at most so many within one another: by how many -/
def calF (ds : List Df) : Nat → Cs
  | 0 => fun _ _ _ _ => .bad
  | n + 1 => fun m => if m = n + 1 then fun f xs s => match ds[f]? with
    | some d => if xs.length = d.p then bnd (exSs (calF ds n) d.body n (startR d xs) s) fun fl s1 => match fl with
      | .rt x => .ok x s1
      | .nx _ => .ok .non s1
      else .bad
    | none => .bad
    else calF ds n m
abbrev calD (ds : List Df) (n : Nat) : Cl := calF ds n n
theorem calF_le (ds : List Df) {m : Nat} : ∀ {n : Nat}, m ≤ n → calF ds n m = calD ds m
  | 0, h => by have e : m = 0 := by omega
               rw [e]
  | n + 1, h => by
    by_cases e : m = n + 1
    · rw [e]
    · show (if m = n + 1 then _ else calF ds n m) = _
      rw [if_neg e]; exact calF_le ds (by omega)
theorem calD_succ (ds : List Df) (n f : Nat) (xs : List D) (s : S) : calD ds (n + 1) f xs s = match ds[f]? with
    | some d => if xs.length = d.p then bnd (exSs (calF ds n) d.body n (startR d xs) s) fun fl s1 => match fl with
      | .rt x => .ok x s1
      | .nx _ => .ok .non s1
      else .bad
    | none => .bad := by
  show (if n + 1 = n + 1 then _ else _ : Cl) f xs s = _
  rw [if_pos rfl] <;> rfl
theorem calF_two (ds : List Df) (n : Nat) : calF ds (n + 2) n = calF ds n n := calF_le ds (by omega)
end Tw
end
section
/-! The evaluator against the hand layer, part A: worlds, what stands for what, what stays. -/
namespace Tw
open PySem PySem.Spec PyProof.Rows L2

/-- what is frozen, and the things that may change, by number -/
structure Wd where
  F : Hp
  B : List Addr
/-- where the written part keeps the defs and the errors' classes; the tables of code objects -/
structure Ga where
  fa : List Addr
  xa : List Addr
  T : List (Addr × Str)
  /-- the error that is in hand: its object, its class by number, its own dict -/
  cx : Option (Addr × Nat × Option Addr) := none

section
variable (K : PySem.W.Frag) (g : Ga) (W : Wd)
mutual
def Rep : D → V → Prop
  | .non, v => v = .non
  | .bl b, v => v = .bl b
  | .int i, v => v = .int i
  | .str x, v => v = .str x
  | .tup ds, v => ∃ a vs, v = .ref a ∧ SqT K W.F a vs ∧ RepL ds vs
  | .lst ds, v => ∃ a vs, v = .ref a ∧ SqL K W.F a vs ∧ RepL ds vs
  | .box k, v => ∃ a, v = .ref a ∧ W.B[k]? = some a
  | .fn f, v => ∃ a, v = .ref a ∧ g.fa[f]? = some a
  | .xc c, v => ∃ a d, v = .ref a ∧ g.cx = some (a, c, d) ∧ ∀ dd, d = some dd → ∃ fs, W.F dd = some (.xd fs)
def RepL : List D → List V → Prop
  | [], vs => vs = []
  | d :: ds, vs => ∃ v r, vs = v :: r ∧ Rep d v ∧ RepL ds r
end
def BxR (H : Hp) (a : Addr) : Bx → Prop
  | .lst ds => ∃ vs, H a = some (.lst vs) ∧ RepL K g W ds vs
  | .ins _ _ => False
structure Ok (s : S) (H : Hp) : Prop where
  sub : ∀ a o, W.F a = some o → H a = some o
  len : W.B.length = s.length
  nd : W.B.Nodup
  nf : ∀ a, a ∈ W.B → W.F a = none
  box : ∀ (k : Nat) (a : Addr) (b : Bx), W.B[k]? = some a → s[k]? = some b → BxR K g W H a b
  tab : LamX.Tabs g.T H
  nt : ∀ a ps, W.F a ≠ some (.tbl ps)
end
/-- nothing stands there, or a table -/
def Fr (H : Hp) (a : Addr) : Prop := ∀ o, H a = some o → ∃ ps, o = .tbl ps
theorem Fr.of {H : Hp} {a : Addr} (h : H a = none) : Fr H a := fun o e => by rw [h] at e; cases e
theorem Fr.no {H : Hp} {a : Addr} {o : HO} (f : Fr H a) (h : H a = some o) (n : ∀ ps, o ≠ .tbl ps) : False := (f o h).elim n
theorem Fr.un {H : Hp} {p a : Addr} {o : HO} (hp : H p = none) (f : Fr (upd H p o) a) : Fr H a := fun u e => f u (by
  rw [upd_ne (fun z => by rw [z, hp] at e; cases e)]; exact e)
def Le (W W' : Wd) : Prop := (∀ a o, W.F a = some o → W'.F a = some o) ∧ ∃ m, W'.B = W.B ++ m
structure Ext (W : Wd) (H : Hp) (W' : Wd) (H' : Hp) : Prop where
  le : Le W W'
  newF : ∀ a o, W'.F a = some o → W.F a = some o ∨ Fr H a
  newB : ∀ a, a ∈ W'.B → a ∈ W.B ∨ Fr H a
  keep : ∀ a o, H a = some o → a ∉ W.B → (∀ ps, o ≠ .tbl ps) → H' a = some o
  there : ∀ a, Fr H' a → Fr H a

section
variable {K : PySem.W.Frag} {g : Ga} {W W1 W2 W' : Wd} {H H1 H2 H' : Hp} {s s1 : S}
theorem Le.refl (W : Wd) : Le W W := ⟨fun _ _ h => h, [], by simp⟩
theorem Le.trans (a : Le W W1) (b : Le W1 W2) : Le W W2 := ⟨fun x o h => b.1 x o (a.1 x o h), by
  obtain ⟨m, e⟩ := a.2; obtain ⟨n, e'⟩ := b.2; exact ⟨m ++ n, by rw [e', e, List.append_assoc]⟩⟩
theorem Le.getB (a : Le W W1) {k : Nat} {x : Addr} (h : W.B[k]? = some x) : W1.B[k]? = some x := by
  obtain ⟨m, e⟩ := a.2
  rw [e, List.getElem?_append_left (List.getElem?_eq_some_iff.mp h).1]; exact h
theorem Le.memB (a : Le W W1) {x : Addr} (h : x ∈ W.B) : x ∈ W1.B := by
  obtain ⟨m, e⟩ := a.2
  rw [e]; exact List.mem_append_left _ h
theorem rd_mono {F F' : Hp} (h : ∀ a o, F a = some o → F' a = some o) {a : Addr} {u : HO} (r : Rd F a u) : Rd F' a u := r.elim (fun z => .inl (h _ _ z)) fun ⟨o, z⟩ => .inr ⟨o, h _ _ z⟩
theorem sqL_mono {F F' : Hp} (h : ∀ a o, F a = some o → F' a = some o) {a : Addr} {xs : List V} (r : SqL K F a xs) : SqL K F' a xs := r.elim (fun z => .inl (rd_mono h z)) .inr
theorem sqT_mono {F F' : Hp} (h : ∀ a o, F a = some o → F' a = some o) {a : Addr} {xs : List V} (r : SqT K F a xs) : SqT K F' a xs := r.elim (fun z => .inl (rd_mono h z)) .inr
mutual
theorem Rep.mono (l : Le W W') : ∀ {d : D} {v : V}, Rep K g W d v → Rep K g W' d v
  | .non, _, h => h
  | .bl _, _, h => h
  | .int _, _, h => h
  | .str _, _, h => h
  | .tup ds, _, ⟨a, vs, e, h, r⟩ => ⟨a, vs, e, sqT_mono l.1 h, RepL.mono l r⟩
  | .lst ds, _, ⟨a, vs, e, h, r⟩ => ⟨a, vs, e, sqL_mono l.1 h, RepL.mono l r⟩
  | .box k, _, ⟨a, e, h⟩ => ⟨a, e, l.getB h⟩
  | .fn _, _, h => h
  | .xc _, _, ⟨a, d, e1, e2, h⟩ => ⟨a, d, e1, e2, fun dd e => (h dd e).imp fun fs z => l.1 _ _ z⟩
theorem RepL.mono (l : Le W W') : ∀ {ds : List D} {vs : List V}, RepL K g W ds vs → RepL K g W' ds vs
  | [], _, h => h
  | _ :: _, _, ⟨v, r, e, h, hr⟩ => ⟨v, r, e, Rep.mono l h, RepL.mono l hr⟩
end
theorem RepL.length : ∀ {ds : List D} {vs : List V}, RepL K g W ds vs → vs.length = ds.length
  | [], _, h => by cases h; rfl
  | _ :: _, _, ⟨_, _, e, _, hr⟩ => by subst e; simp [hr.length]
theorem RepL.get : ∀ {ds : List D} {vs : List V}, RepL K g W ds vs → ∀ {i : Nat} {d : D}, ds[i]? = some d → ∃ v, vs[i]? = some v ∧ Rep K g W d v
  | [], _, _, _, _, e => by simp at e
  | _ :: _, _, ⟨v, r, rfl, h, hr⟩, 0, _, e => by
    simp at e; subst e; exact ⟨v, rfl, h⟩
  | _ :: _, _, ⟨v, r, rfl, h, hr⟩, i + 1, _, e => by
    obtain ⟨u, h1, h2⟩ := RepL.get hr (i := i) (by simpa using e)
    exact ⟨u, by simpa using h1, h2⟩
theorem RepL.app : ∀ {ds es : List D} {vs us : List V}, RepL K g W ds vs → RepL K g W es us → RepL K g W (ds ++ es) (vs ++ us)
  | [], _, _, _, h, h' => by cases h; exact h'
  | _ :: _, _, _, _, ⟨v, r, rfl, h, hr⟩, h' => ⟨v, r ++ _, rfl, h, RepL.app hr h'⟩
theorem RepL.one {d : D} {v : V} (h : Rep K g W d v) : RepL K g W [d] [v] := ⟨v, [], rfl, h, rfl⟩
theorem RepL.nil : RepL K g W [] [] := rfl
theorem RepL.cons {d : D} {v : V} {ds : List D} {vs : List V} (h : Rep K g W d v) (hr : RepL K g W ds vs) : RepL K g W (d :: ds) (v :: vs) := ⟨v, vs, rfl, h, hr⟩
theorem RepL.drop : ∀ {ds : List D} {vs : List V} (n : Nat), RepL K g W ds vs → RepL K g W (ds.drop n) (vs.drop n)
  | _, _, 0, h => h
  | [], _, _ + 1, h => by cases h; exact rfl
  | _ :: _, _, n + 1, ⟨v, r, rfl, h, hr⟩ => RepL.drop n hr
theorem RepL.take : ∀ {ds : List D} {vs : List V} (n : Nat), RepL K g W ds vs → RepL K g W (ds.take n) (vs.take n)
  | _, _, 0, _ => rfl
  | [], _, _ + 1, h => by cases h; exact rfl
  | _ :: _, _, n + 1, ⟨v, r, rfl, h, hr⟩ => ⟨v, r.take n, rfl, h, RepL.take n hr⟩
theorem RepL.set : ∀ {ds : List D} {vs : List V} {d : D} {v : V} (i : Nat), Rep K g W d v → RepL K g W ds vs → RepL K g W (ds.set i d) (vs.set i v)
  | [], _, _, _, _, _, h => by cases h; exact rfl
  | _ :: _, _, _, _, 0, q, ⟨v, r, rfl, h, hr⟩ => ⟨_, r, rfl, q, hr⟩
  | _ :: _, _, _, _, i + 1, q, ⟨v, r, rfl, h, hr⟩ => ⟨v, r.set i _, rfl, h, RepL.set i q hr⟩
theorem RepL.rev : ∀ {ds : List D} {vs : List V}, RepL K g W ds vs → RepL K g W ds.reverse vs.reverse
  | [], _, h => by cases h; exact rfl
  | _ :: _, _, ⟨v, r, rfl, h, hr⟩ => by
    rw [List.reverse_cons, List.reverse_cons]; exact RepL.app (RepL.rev hr) (RepL.one h)

theorem Ext.refl (W : Wd) (H : Hp) : Ext W H W H := ⟨.refl W, fun _ _ h => .inl h, fun _ h => .inl h, fun _ _ h _ _ => h, fun _ h => h⟩
theorem Ext.trans (a : Ext W H W1 H1) (b : Ext W1 H1 W2 H2) : Ext W H W2 H2 where
  le := a.le.trans b.le
  newF := fun x o h => (b.newF x o h).elim (a.newF x o) fun z => .inr (a.there x z)
  newB := fun x h => (b.newB x h).elim (a.newB x) fun z => .inr (a.there x z)
  keep := fun x o h n t => b.keep x o (a.keep x o h n t) (fun z => (a.newB x z).elim n fun e => e.no h t) t
  there := fun x h => a.there x (b.there x h)

/-- a new object that is frozen at once -/
def Wd.frz (W : Wd) (p : Addr) (o : HO) : Wd := ⟨upd W.F p o, W.B⟩
theorem Le.frz (W : Wd) {p : Addr} {o : HO} (hp : W.F p = none) : Le W (W.frz p o) := ⟨fun a u h => by
  show upd W.F p o a = some u
  rw [upd_ne (fun z => by rw [z, hp] at h; cases h)]; exact h, [], by simp [Wd.frz]⟩
theorem Ok.unF (ok : Ok K g W s H) {p : Addr} (hp : H p = none) : W.F p = none := by
  cases e : W.F p with
  | none => rfl
  | some o => rw [ok.sub p o e] at hp; cases hp
theorem BxR.ext (l : Le W W') {a : Addr} (e : ∀ vs, H a = some (.lst vs) → H' a = some (.lst vs)) : ∀ {b : Bx}, BxR K g W H a b → BxR K g W' H' a b
  | .lst _, ⟨vs, h, r⟩ => ⟨vs, e _ h, RepL.mono l r⟩
theorem tabs_keep {T : List (Addr × Str)} (t : LamX.Tabs T H) (e : ∀ b o, H b = some o → H' b = some o) : LamX.Tabs T H' := t.ext e
theorem upd_keep {p : Addr} {o : HO} (hp : H p = none) : ∀ b u, H b = some u → upd H p o b = some u := fun b u h => by
  rw [upd_ne (fun z => by rw [z, hp] at h; cases h)]; exact h
theorem Ok.boxAt (ok : Ok K g W s H) {a : Addr} (h : a ∈ W.B) : ∃ o, H a = some o := by
  obtain ⟨k, hk, e⟩ := List.getElem_of_mem h
  have hk' : k < s.length := by rw [← ok.len]; exact hk
  have q := ok.box k a (s[k]) (by rw [List.getElem?_eq_getElem hk, e]) (List.getElem?_eq_getElem hk')
  cases hb : s[k] with
  | lst ds => rw [hb] at q; obtain ⟨vs, h, _⟩ := q; exact ⟨_, h⟩
  | ins c fs => rw [hb] at q; exact q.elim
/-- a new object, not known yet -/
theorem Ok.alloc0 (ok : Ok K g W s H) {p : Addr} {o : HO} (hp : H p = none) : Ok K g W s (upd H p o) where
  sub := fun a u h => upd_keep hp a u (ok.sub a u h)
  len := ok.len
  nd := ok.nd
  nf := ok.nf
  box := fun k a b h1 h2 => (ok.box k a b h1 h2).ext (.refl W) fun vs e => upd_keep hp _ _ e
  tab := tabs_keep ok.tab (upd_keep hp)
  nt := ok.nt
theorem Ext.alloc0 (W : Wd) {H : Hp} {p : Addr} {o : HO} (hp : H p = none) : Ext W H W (upd H p o) where
  le := .refl W
  newF := fun _ _ h => .inl h
  newB := fun _ h => .inl h
  keep := fun a u h _ _ => upd_keep hp a u h
  there := fun a h => h.un hp
/-- what stands is frozen -/
theorem Ok.freeze (ok : Ok K g W s H) {p : Addr} {o : HO} (hp : H p = some o) (hF : W.F p = Option.none) (hB : p ∉ W.B) (ho : ∀ ps, o ≠ .tbl ps := by intro ps z; cases z) : Ok K g (W.frz p o) s H where
  sub := fun a u h => by
    by_cases e : a = p
    · subst e
      have h' : upd W.F a o a = some u := h
      rw [upd_same] at h'; cases h'; exact hp
    · have h' : upd W.F p o a = some u := h
      rw [upd_ne e] at h'; exact ok.sub a u h'
  len := ok.len
  nd := ok.nd
  nf := fun a h => by
    show upd W.F p o a = Option.none
    rw [upd_ne (fun z => hB (by rw [← z]; exact h))]; exact ok.nf a h
  box := fun k a b h1 h2 => (ok.box k a b h1 h2).ext (.frz W hF) fun _ e => e
  tab := ok.tab
  nt := fun a ps h => by
    have h' : upd W.F p o a = some (.tbl ps) := h
    by_cases e : a = p
    · rw [e, upd_same] at h'; exact ho ps (Option.some.inj h')
    · rw [upd_ne e] at h'; exact ok.nt a ps h'
/-- a new object, frozen -/
theorem Ok.alloc (ok : Ok K g W s H) {p : Addr} {o : HO} (hp : H p = Option.none) (ho : ∀ ps, o ≠ .tbl ps := by intro ps z; cases z) : Ok K g (W.frz p o) s (upd H p o) :=
  (ok.alloc0 hp).freeze upd_same (ok.unF hp) (fun h => by
    obtain ⟨u, e⟩ := ok.boxAt h
    rw [hp] at e; cases e) ho
theorem Ext.alloc {W : Wd} {H : Hp} {p : Addr} {o : HO} (hF : W.F p = none) (hp : H p = none) : Ext W H (W.frz p o) (upd H p o) where
  le := .frz W hF
  newF := fun a u h => by
    by_cases e : a = p
    · subst e; exact .inr (.of hp)
    · have h' : upd W.F p o a = some u := h
      rw [upd_ne e] at h'; exact .inl h'
  newB := fun _ h => .inl h
  keep := fun a u h _ _ => upd_keep hp a u h
  there := (Ext.alloc0 W hp).there
theorem rep_tup {p : Addr} {ds : List D} {vs : List V} (hF : W.F p = none) (h : RepL K g W ds vs) : Rep K g (W.frz p (.tup vs)) (.tup ds) (.ref p) :=
  ⟨p, vs, rfl, SqT.of upd_same, RepL.mono (.frz W hF) h⟩
theorem rep_lst {p : Addr} {ds : List D} {vs : List V} (hF : W.F p = none) (h : RepL K g W ds vs) : Rep K g (W.frz p (.lst vs)) (.lst ds) (.ref p) :=
  ⟨p, vs, rfl, SqL.of upd_same, RepL.mono (.frz W hF) h⟩

/-! ### all but the tables stays -/
structure Kept (H H' : Hp) : Prop where
  keep : ∀ a o, H a = some o → (∀ ps, o ≠ .tbl ps) → H' a = some o
  there : ∀ a, Fr H' a → Fr H a
theorem Kept.of {H H' : Hp} (k : ∀ a o, H a = some o → (∀ ps, o ≠ .tbl ps) → H' a = some o) : Kept H H' := ⟨k, fun a f o e => by
  by_cases h : ∃ ps, o = .tbl ps
  · exact h
  · exact (f.no (k a o e fun ps z => h ⟨ps, z⟩) fun ps z => h ⟨ps, z⟩).elim⟩
theorem Kept.ext (k : Kept H H') (W : Wd) : Ext W H W H' := ⟨.refl W, fun _ _ h => .inl h, fun _ h => .inl h, fun a o h _ t => k.keep a o h t, k.there⟩
theorem Kept.ok (k : Kept H H') (ok : Ok K g W s H) (t : LamX.Tabs g.T H') : Ok K g W s H' :=
  ⟨fun a o h => k.keep a o (ok.sub a o h) fun ps z => ok.nt a ps (by rw [← z]; exact h), ok.len, ok.nd, ok.nf, fun i a b h1 h2 => (ok.box i a b h1 h2).ext (.refl W) fun vs e => k.keep a _ e (fun ps z => nomatch z), t, ok.nt⟩
theorem Kept.of_ext {W' : Wd} (x : Ext W H W' H') (h : W.B = []) : Kept H H' := ⟨fun a o e t => x.keep a o e (by rw [h]; exact List.not_mem_nil) t, x.there⟩
/-! ### slots -/
def SlR (K : PySem.W.Frag) (g : Ga) (W : Wd) (H : Hp) : Sl → Option (Option V) → Prop
  | .no, _ => True
  | .v d, x => ∃ v, x = some (some v) ∧ Rep K g W d v
  | .own ds, x => ∃ a vs, x = some (some (.ref a)) ∧ H a = some (.lst vs) ∧ RepL K g W ds vs ∧ W.F a = none ∧ a ∉ W.B
structure EnvR (K : PySem.W.Frag) (g : Ga) (W : Wd) (H : Hp) (r : Rho) (σ : L2.St) : Prop where
  len : r.length = σ.length
  at_ : ∀ (i : Nat) (sl : Sl), r[i]? = some sl → SlR K g W H sl σ[i]?
theorem SlR.ext (x : Ext W H W' H') {sl : Sl} {o : Option (Option V)} (h : SlR K g W H sl o) : SlR K g W' H' sl o := by
  cases sl with
  | no => trivial
  | v d => obtain ⟨v, e, r⟩ := h; exact ⟨v, e, r.mono x.le⟩
  | own ds =>
    obtain ⟨a, vs, e, h1, r, h2, h3⟩ := h
    refine ⟨a, vs, e, x.keep a _ h1 h3 (fun ps z => nomatch z), r.mono x.le, ?_, fun z => (x.newB a z).elim h3 fun q => q.no h1 (fun ps z => nomatch z)⟩
    cases q : W'.F a with
    | none => rfl
    | some o => exact ((x.newF a o q).elim (fun z => by rw [h2] at z; cases z) fun z => (z.no h1 (fun ps z => nomatch z)).elim)
theorem EnvR.ext (x : Ext W H W' H') {r : Rho} {σ : L2.St} (h : EnvR K g W H r σ) : EnvR K g W' H' r σ := ⟨h.len, fun i sl e => (h.at_ i sl e).ext x⟩

/-! ### what follows -/
/-- an error as it lies -/
def XcR (g : Ga) (H : Hp) (x : Xc) (cls : Value) (dd : Option Addr) : Prop :=
  ∃ C, g.xa[x.c]? = some C ∧ cls = .ref C ∧ match x.lim with
    | none => dd = none
    | some i => ∃ a, dd = some a ∧ H a = some (.xd [("limit", .int i)])
def Post {α : Type} (K : PySem.W.Frag) (g : Ga) (W : Wd) (H : Hp) (o : Out α) (k : α → S → Wd → Hp → Prop) (E : XK) : Prop := match o with
  | .ok d s' => ∀ W' H', Ext W H W' H' → Ok K g W' s' H' → k d s' W' H'
  | .ex x s' => ∀ W' H' cls dd, Ext W H W' H' → Ok K g W' s' H' → XcR g H' x cls dd → E cls dd H'
  | .bad => False
theorem Post.mono {α : Type} {o : Out α} {k k' : α → S → Wd → Hp → Prop} {E : XK} (h : Post K g W H o k E) (f : ∀ a s' W' H', Ext W H W' H' → Ok K g W' s' H' → k a s' W' H' → k' a s' W' H') : Post K g W H o k' E := by
  cases o with
  | ok d s' => exact fun W' H' x y => f d s' W' H' x y (h W' H' x y)
  | ex x s' => exact h
  | bad => exact h
theorem Post.from {α : Type} {o : Out α} {k : α → S → Wd → Hp → Prop} {E : XK} (h : Post K g W H o k E) (x : Ext W H W1 H1) : Post K g W1 H1 o k E := by
  cases o with
  | ok d s' => exact fun W' H' y => h W' H' (x.trans y)
  | ex z s' => exact fun W' H' cls dd y => h W' H' cls dd (x.trans y)
  | bad => exact h
theorem Post.bnd {α β : Type} {m : Out α} {f : α → S → Out β} {k : β → S → Wd → Hp → Prop} {E : XK} (h : Post K g W H (bnd m f) k E) : Post K g W H m (fun a s1 W1 H1 => Post K g W1 H1 (f a s1) k E) E := by
  cases m with
  | ok a s1 => exact fun W1 H1 x _ => Post.from (o := f a s1) h x
  | ex x s1 => exact h
  | bad => exact h
theorem Post.opt {α : Type} {o : Option α} {s1 : S} {k : α → S → Wd → Hp → Prop} {E : XK} (h : Post K g W H (opt o s1) k E) (ok : Ok K g W s1 H) : ∃ a, o = some a ∧ k a s1 W H := by
  cases o with
  | none => exact h.elim
  | some a => exact ⟨a, rfl, h W H (.refl W H) ok⟩
theorem Post.now {α : Type} {a : α} {s1 : S} {k : α → S → Wd → Hp → Prop} {E : XK} (h : Post K g W H (.ok a s1) k E) (ok : Ok K g W s1 H) : k a s1 W H := h W H (.refl W H) ok
end
end Tw
end
section
/-! Part B: the checker: a slim text fits a written one. -/
namespace Tw
open PySem PySem.Spec PyProof.Rows L2

/-- the top's names: its defs, its int constants, its errors, the built-in names that it does not store over -/
structure Tn where
  fns : List Str
  consts : List (Str × Int)
  excs : List Str
  blts : List Str
  /-- whether it has the def that tries a lambda -/
  tr : Bool := false
  /-- the defs in which lambdas stand -/
  lams : List Str := []
  /-- whether the error that bears a limit is raised -/
  tm : Bool := false
/-- a written def -/
structure Fd where
  x : Str
  args : Arguments
  body : List Stmt
  scope : Scope
  N : List Str
  ps : List Str
/-- where one stands: the slots' names, the block's scope, the scope that a block was written with (none: a def's body) -/
structure Cc where
  N : List Str
  sc : Scope
  blk : Option Scope
  /-- whether a lambda may stand here -/
  lam : Bool := false
def nmOk (x : Str) : Bool := !decide (x = ("__debug__" : Str)) && !decide (x = ("__classdict__" : Str)) && !decide (x = ("__name__" : Str))
def visB (sc : Scope) (x : Str) : Bool := match sc.names.lookup x with
  | some .local => true
  | some .cell => true
  | some .free => true
  | _ => false
def glB (sc : Scope) (x : Str) : Bool := decide (sc.names.lookup x = some .globalImplicit)
def Cc.fnB (c : Cc) (x : Str) : Bool := match c.blk with
  | none => true
  | some s => decide (s.names.lookup x = some .cell)
def locB (c : Cc) (x : Str) : Bool := decide (c.sc.names.lookup x = some .local) || (decide (c.sc.names.lookup x = some .cell) && c.fnB x)
def boOf : Bo → Operator
  | .add => .Add | .sub => .Sub | .mul => .Mult | .fdiv => .FloorDiv | .mod => .Mod | .pow => .Pow
def coOf : Co → CmpOp
  | .eq => .Eq | .ne => .NotEq | .lt => .Lt | .le => .LtE | .gt => .Gt | .ge => .GtE | .is => .Is | .isnot => .IsNot | .in => .In | .notin => .NotIn
def tyNm : Ty → String
  | .non => "NoneType" | .bool => "bool" | .int => "int" | .str => "str" | .list => "list" | .tuple => "tuple"
def biNm : Bi → String
  | .len => "len" | .all => "all" | .any => "any" | .min2 => "min" | .max2 => "max" | .min1 => "min" | .max1 => "max" | .sum => "sum"
  | .tuple => "tuple" | .list => "list" | .int => "int" | .sorted => "sorted" | .sset => "sorted"
/-- a built-in name, not stored over -/
def bltB (t : Tn) (sc : Scope) (x : Str) (n : String) : Bool := decide (x = (n : Str)) && glB sc x && decide (x ∈ t.blts)
/-- a test's own words are asked of its value -/
def plainT : Expr → Bool
  | .UnaryOp .Not _ _ => false
  | .BoolOp .. => false
  | .IfExp .. => false
  | .Compare .. => false
  | _ => true
def noStar : Expr → Bool
  | .Starred .. => false
  | _ => true
def noSlice : Expr → Bool
  | .Slice .. => false
  | _ => true
def noSet : Expr → Bool
  | .Set .. => false
  | _ => true
def slotB (c : Cc) (i : Nat) (x : Str) : Bool := decide (c.N[i]? = some x) && visB c.sc x && nmOk x
def locsB (c : Cc) : List Nat → List Expr → Bool
  | [], [] => true
  | i :: is, .Name x _ :: es => decide (c.N[i]? = some x) && locB c x && nmOk x && locsB c is es
  | _, _ => false
def tgB (c : Cc) : Tg → Expr → Bool
  | .nm i, .Name x _ => decide (c.N[i]? = some x) && locB c x && nmOk x
  | .tp is, .Tuple es _ _ => locsB c is es
  | _, _ => false
def Tg.slots : Tg → List Nat
  | .nm i => [i]
  | .tp is => is
def isTup : Expr → Bool
  | .Tuple .. => true
  | _ => false
def tysB (t : Tn) (sc : Scope) : List Ty → List Expr → Bool
  | [], [] => true
  | y :: ys, .Name x _ :: es => bltB t sc x (tyNm y) && decide (y ≠ .non) && nmOk x && tysB t sc ys es
  | _, _ => false
def isiB (t : Tn) (sc : Scope) (ts : List Ty) (k : Expr) : Bool := match ts, k with
  | [y], .Name z _ => bltB t sc z (tyNm y) && decide (y ≠ .non) && nmOk z
  | ts, .Tuple es _ _ => tysB t sc ts es
  | _, _ => false
/-- a lambda without parameters -/
def noPs : Arguments → Bool
  | ⟨[], [], none, [], [], none, []⟩ => true
  | _ => false
mutual
def chkE (t : Tn) (c : Cc) (m : Bool) : E → Expr → Bool
  | .var i, ex => match ex with
    | .Name x _ => slotB c i x
    | _ => false
  | .non, ex => match ex with
    | .Constant .none _ _ => true
    | _ => false
  | .bl b, ex => match ex with
    | .Constant (.bool d) _ _ => decide (b = d)
    | _ => false
  | .int i, ex => match ex with
    | .Constant (.int j) _ _ => decide (i = j)
    | _ => false
  | .str x, ex => match ex with
    | .Constant (.str y) _ _ => decide (x = y)
    | _ => false
  | .gint x i, ex => match ex with
    | .Name y _ => decide (x = y) && glB c.sc y && decide ((x, i) ∈ t.consts) && nmOk y
    | _ => false
  | .gfn f, ex => match ex with
    | .Name y _ => decide (t.fns[f]? = some y) && glB c.sc y && nmOk y
    | _ => false
  | .bin op a b, ex => match ex with
    | .BinOp l o r _ => decide (boOf op = o) && chkE t c false a l && chkE t c false b r
    | _ => false
  | .neg a, ex => match ex with
    | .UnaryOp .USub e _ => chkE t c false a e
    | _ => false
  | .cmp op a b, ex => match ex with
    | .Compare l [o] [r] _ => decide (coOf op = o) && !behindInMarks (coOf op) r && chkE t c false a l && chkE t c false b r
    | _ => false
  | .ch2 op op' a b d, ex => match ex with
    | .Compare l [o, o'] [r, u] _ => decide (coOf op = o) && decide (coOf op' = o') && !lastMarks [coOf op, coOf op'] [r, u] && chkE t c false a l && chkE t c false b r && chkE t c false d u
    | _ => false
  | .ch3 op op' op'' a b d e, ex => match ex with
    | .Compare l [o, o', o''] [r, u, v] _ => m && decide (coOf op = o) && decide (coOf op' = o') && decide (coOf op'' = o'') && !lastMarks [coOf op, coOf op', coOf op''] [r, u, v] &&
      chkE t c false a l && chkE t c false b r && chkE t c false d u && chkE t c false e v
    | _ => false
  | .nt a, ex => match ex with
    | .UnaryOp .Not e _ => chkE t c m a e
    | _ => false
  | .an a b, ex => match ex with
    | .BoolOp .And [x, y] _ => chkE t c m a x && chkE t c m b y
    | .BoolOp .And (x :: y :: z :: r) pos => chkE t c m a x && chkE t c m b (.BoolOp .And (y :: z :: r) pos)
    | _ => false
  | .or a b, ex => match ex with
    | .BoolOp .Or [x, y] _ => chkE t c m a x && chkE t c m b y
    | .BoolOp .Or (x :: y :: z :: r) pos => chkE t c m a x && chkE t c m b (.BoolOp .Or (y :: z :: r) pos)
    | _ => false
  | .ite q a b, ex => match ex with
    | .IfExp e x y _ => !m && chkE t c true q e && chkE t c false a x && chkE t c false b y
    | _ => false
  | .tup es, ex => match ex with
    | .Tuple xs _ _ => !m && chkEs t c es xs
    | _ => false
  | .lst es, ex => match ex with
    | .List xs _ => !m && chkEs t c es xs
    | _ => false
  | .idx a i, ex => match ex with
    | .Subscript x y _ => noSlice y && chkE t c false a x && chkE t c false i y
    | _ => false
  | .oidx i j, ex => match ex with
    | .Subscript (.Name x _) y _ => noSlice y && slotB c i x && chkE t c false j y
    | _ => false
  | .oln i, ex => match ex with
    | .Call (.Name y _) [.Name x _] [] _ => bltB t c.sc y "len" && slotB c i x
    | _ => false
  | .sl a lo hi, ex => match ex with
    | .Subscript x (.Slice l h none _) _ => !m && chkE t c false a x && chkO t c lo l && chkO t c hi h
    | _ => false
  | .rev a, ex => match ex with
    | .Subscript x (.Slice none none (some (.UnaryOp .USub (.Constant (.int 1) _ _) _)) _) _ => !m && chkE t c false a x
    | _ => false
  | .cal f es, ex => match ex with
    | .Call (.Name x _) xs [] _ => decide (t.fns[f]? = some x) && glB c.sc x && nmOk x && xs.all noStar && chkEs t c es xs
    | _ => false
  | .clv i es, ex => match ex with
    | .Call (.Name x _) xs [] _ => slotB c i x && xs.all noStar && !xs.isEmpty && chkEs t c es xs
    | _ => false
  | .isi ts a, ex => match ex with
    | .Call (.Name x _) [e, k] [] _ => bltB t c.sc x "isinstance" && noStar e && noStar k && decide (ts.length ≤ big) && chkE t c false a e && isiB t c.sc ts k
    | _ => false
  | .set a, ex => match ex with
    | .Call (.Name x _) [.Call (.Name y _) [e] [] _] [] _ => !m && bltB t c.sc x "sorted" && bltB t c.sc y "set" && noStar e && chkE t c false a e
    | _ => false
  | .bi b es, ex => match ex with
    | .Call (.Name x _) xs [] _ => decide (b ≠ .sset) && bltB t c.sc x (biNm b) && xs.all noStar && !xs.isEmpty && chkEs t c es xs
    | _ => false
  | .lc own tg it q e, ex => match ex with
    | .ListComp elt [⟨k, iter, ifs, a⟩] sc _ => !m && decide (a = 0) && blkC c.N c.sc sc (own.filterMap fun i => c.N[i]?.map fun x => (x, i)) && own.all (fun i => decide (i < c.N.length)) && tg.slots.all (fun i => decide (i ∈ own)) &&
      noSet iter && chkI t c (isTup k) it iter && tgB ⟨c.N, relS sc c.sc, some sc, false⟩ tg k && chkC t ⟨c.N, relS sc c.sc, some sc, false⟩ q ifs && chkE t ⟨c.N, relS sc c.sc, some sc, false⟩ false e elt
    | _ => false
  | .isx _ _, _ => false
  | .isv _, _ => false
  | .spl a z, ex => match ex with
    | .Call (.Attribute (.Name x p) at_ apos) [.Constant (.str y) _ _] [] pos => decide (at_ = ("split" : Str)) && decide (z = y) && (apos.endLine == pos.line) && chkE t c false a (.Name x p)
    | _ => false
  | .jn z a, ex => match ex with
    | .Call (.Attribute (.Constant (.str y) _ _) at_ apos) [e] [] pos => decide (at_ = ("join" : Str)) && decide (z = y) && (apos.endLine == pos.line) && noStar e && chkE t c false a e
    | _ => false
  | .trl a, ex => match ex with
    | .Call (.Name x _) [.Lambda ps e sc _] [] _ => decide (x = ("_law_try" : Str)) && t.tr && glB c.sc x && c.lam && noPs ps && LamX.lamSB c.sc sc && chkE t ⟨c.N, sc, some sc, false⟩ false a e
    | _ => false
def chkEs (t : Tn) (c : Cc) : Es → List Expr → Bool
  | .nil, xs => match xs with
    | [] => true
    | _ => false
  | .cons a es, xs => match xs with
    | x :: xs => noStar x && chkE t c false a x && chkEs t c es xs
    | _ => false
def chkO (t : Tn) (c : Cc) : Eo → Option Expr → Bool
  | .no, x => match x with
    | none => true
    | _ => false
  | .so a, x => match x with
    | some x => chkE t c false a x
    | _ => false
def chkC (t : Tn) (c : Cc) : Eo → List Expr → Bool
  | .no, xs => match xs with
    | [] => true
    | _ => false
  | .so a, xs => match xs with
    | [x] => chkE t c true a x
    | _ => false
/-- tp: the target is written as a tuple -/
def chkI (t : Tn) (c : Cc) (tp : Bool) : It → Expr → Bool
  | .seq a, x => chkE t c false a x
  | .rng es, ex => match ex with
    | .Call (.Name x _) xs [] _ => bltB t c.sc x "range" && xs.all noStar && decide (xs.length ≤ 3) && chkEs t c es xs
    | _ => false
  | .enm a, ex => match ex with
    | .Call (.Name x _) [e] [] _ => tp && bltB t c.sc x "enumerate" && noStar e && chkE t c false a e
    | _ => false
  | .zip a b, ex => match ex with
    | .Call (.Name x _) [e, f] [] _ => tp && bltB t c.sc x "zip" && noStar e && noStar f && chkE t c false a e && chkE t c false b f
    | _ => false
end
end Tw
end
section
/-! Part C: readings by the evaluator; expressions without calls. -/
namespace Tw
open PySem PySem.Spec PyProof.Rows L2

section
variable (K : PySem.W.Frag) (g : Ga) (cs : Cs) (lv : Nat) (Wx : WX)
def rdE (e : E) : TE := fun σ H Q => ∃ W s r, Ok K g W s H ∧ EnvR K g W H r σ ∧ Post K g W H (evE cs r e lv s) (fun d _ W' H' => ∀ v, Rep K g W' d v → Q v H') (fun c dd H' => Wx c dd σ H')
def rdT (e : E) : TT := fun σ H Q => ∃ W s r, Ok K g W s H ∧ EnvR K g W H r σ ∧ Post K g W H (evE cs r e lv s) (fun d _ W' H' => ∃ b, d = .bl b ∧ Q b H') (fun c dd H' => Wx c dd σ H')
def rdEs (es : Es) : TA := fun σ H Q => ∃ W s r, Ok K g W s H ∧ EnvR K g W H r σ ∧ Post K g W H (evEs cs r es lv s) (fun ds _ W' H' => ∀ vs, RepL K g W' ds vs → Q vs H') (fun c dd H' => Wx c dd σ H')
def rdO (o : Eo) : TO := fun σ H Q => ∃ W s r, Ok K g W s H ∧ EnvR K g W H r σ ∧ Post K g W H (evO cs r o lv s) (fun i _ W' H' => Q i H') (fun c dd H' => Wx c dd σ H')
def spC (f : Nat) : Sp := fun vs H Q E => ∃ W s ds, Ok K g W s H ∧ RepL K g W ds vs ∧ Post K g W H (cs lv f ds s) (fun d _ W' H' => ∀ v, Rep K g W' d v → Q v H') E
end
/-- what _law_try tells: the thing, or the words of its error -/
def TTryE (g : Ga) (Q : VK) : XK := fun cls dd H' => LamX.Tabs g.T H' ∧ ∃ (c : Nat) (lim : Option Int) (w : Str), XcR g H' ⟨c, lim⟩ cls dd ∧ kinW c = some w ∧ match lim with
    | none => c ≠ 11 ∧ ∀ H2, Kept H' H2 → LamX.Tabs g.T H2 → Q (.str w) H2
    | some i => c = 11 ∧ ∀ H2 p, Kept H' H2 → LamX.Tabs g.T H2 → H2 p = none → Q (.ref p) (upd H2 p (.tup [.str w, .int i]))
def TTryK (g : Ga) (Q : VK) : VK := fun v H' => LamX.Tabs g.T H' ∧ ∀ p, H' p = none → Q (.ref p) (upd H' p (.tup [.str "told", v]))
def TTry (K : PySem.W.Frag) (g : Ga) : (XK → Hp → VK → Prop) → Hp → VK → Prop := fun tl H Q =>
  LamX.Tabs g.T H ∧ ∀ (E : XK) (R : VK), (∀ cls dd H', TTryE g Q cls dd H' → E cls dd H') → (∀ v H', TTryK g Q v H' → R v H') → tl E H R
/-- the def that tries a lambda -/
def TryOk (P : Program) (w : World) (K : PySem.W.Frag) (mg : Str → Option Value) (base : Heap) (g : Ga) : Prop :=
  ∃ (a : Addr) (pg : Arguments) (bg : List Stmt) (sg : Scope) (dV kV doc pm cdv ct oc : Value) (an od : Option Addr) (osl : Array (Option Value)) (Ng : List Str),
    mg ("_law_try" : Str) = some (.ref a) ∧ PySem.W.keepIn K (.ref a) = true ∧ K.lookup a = some ⟨oc, od, .func (PySem.W.fnOf ("_law_try" : Str) ("_law_try" : Str) pg bg sg dV kV doc pm an cdv ct), osl⟩ ∧ PySem.W.codeIn K cdv ("_law_try" : Str) = true ∧
    Binds K (PySem.W.fnOf ("_law_try" : Str) ("_law_try" : Str) pg bg sg dV kV doc pm an cdv ct) ["call_so"] [] ∧ FnScope Ng ["call_so"] sg ∧ Ng[0]? = some ("call_so" : Str) ∧ Vis sg ("call_so" : Str) ∧
    ∀ (X : Cx) (q : Str) (k : Nat), X.prog = P → X.w = w → X.K = K → X.mg = mg → X.base = base → GivesN X k Ng ("_law_try" : Str) sg a cdv bg ("call_so" : Str) q (TTry K g)
/-- the top's facts -/
structure GOk (P : Program) (w : World) (K : PySem.W.Frag) (mg : Str → Option Value) (base : Heap) (g : Ga) (t : Tn) (cs : Cs) (lv : Nat) : Prop where
  fn : ∀ m, m ≤ lv → ∀ (f : Nat) (x : Str), t.fns[f]? = some x → ∃ a fd ps, g.fa[f]? = some a ∧ mg x = some (.ref a) ∧ PySem.W.keepIn K (.ref a) = true ∧ Binds K fd ps [] ∧ FnOk P w K mg base (L2N.CX P w) m a fd ps (spC K g cs m f)
  blt : ∀ x, x ∈ t.blts → mg x = none
  cst : ∀ x i, (x, i) ∈ t.consts → ∃ tk, mg x = some (.int i tk)
  exc : ∀ (j : Nat) (x : Str), t.excs[j]? = some x → ∃ C, g.xa[j]? = some C ∧ mg x = some (.ref C) ∧ PySem.W.keepIn K (.ref C) = true ∧ (j ≠ 11 → ∃ bmB B n1 n2, ExcBaseFacts B n1 n2 bmB ∧ PySem.W.excIn K C bmB n1 = true ∧
    PySem.W.subIn K (.ref C) (.type "BaseException") = some true ∧ PySem.W.typeIn K (.ref C) = some (.type "type"))
  tr : t.tr = true → TryOk P w K mg base g
  ln : t.fns.length = g.fa.length
  tm : t.tm = true → mg ("super" : Str) = none ∧ ∃ C, g.xa[11]? = some C ∧ TmOk P K C ("limit" : Str)
/-- where one stands: names and scopes -/
structure XB (X : Cx) (c : Cc) : Prop where
  N : X.N = c.N
  nd : c.N.Nodup
  sc : X.env.scope = c.sc
  fn : ∀ x, c.fnB x = true → X.fn x = true
structure XOk (g : Ga) (X : Cx) (c : Cc) (Wx : WX) (lv : Nat) : Prop extends XB X c where
  calm : X.calm = true
  room : Room lv X.A
  tk : L2N.Takes X Wx
  lam : c.lam = true → ∃ co P, X.env.code = .ref co ∧ LamX.TabB X.base X.mg co P ∧ (P, X.env.qual ++ ("<lambda>" : Str)) ∈ g.T ∧ ∀ p ∈ g.T, p.1 = P → p.2 = X.env.qual ++ ("<lambda>" : Str)

theorem PE.of {X : Cx} {e : Expr} {t t' : TE} (h : PE X e t) (f : ∀ σ H Q, t' σ H Q → t σ H Q) : PE X e t' := ⟨fun pins s σ H Q I q => h.run pins s σ H Q I (f σ H Q q)⟩
theorem PT.of {X : Cx} {e : Expr} {t t' : TT} (h : PT X e t) (f : ∀ σ H Q, t' σ H Q → t σ H Q) : PT X e t' := ⟨fun pins s σ H Q I q => h.run pins s σ H Q I (f σ H Q q)⟩
theorem PA.of {X : Cx} {e : List Expr} {t t' : TA} (h : PA X e t) (f : ∀ σ H Q, t' σ H Q → t σ H Q) : PA X e t' := ⟨fun pos pins s σ H Q I q => h.run pos pins s σ H Q I (f σ H Q q)⟩
theorem PO.of {X : Cx} {e : Option Expr} {t t' : TO} (h : PO X e t) (f : ∀ σ H Q, t' σ H Q → t σ H Q) : PO X e t' := ⟨fun pins s σ H Q I q => h.run pins s σ H Q I (f σ H Q q)⟩
theorem PI.of {X : Cx} {tg e : Expr} {t t' : TI} (h : PI X tg e t) (f : ∀ σ H Q, t' σ H Q → t σ H Q) : PI X tg e t' := ⟨fun pins s σ H Q I q => h.run pins s σ H Q I (f σ H Q q)⟩

section
variable {X : Cx} {c : Cc} {t : Tn} {g : Ga} {cs : Cs} {Wx : WX} {lv : Nat}
theorem ba {a b : Bool} (h : (a && b) = true) : a = true ∧ b = true := Bool.and_eq_true_iff.mp h
theorem visB_ok {sc : Scope} {x : Str} (h : visB sc x = true) : Vis sc x := by
  unfold visB at h
  split at h
  · exact .inl (by assumption)
  · exact .inr (.inl (by assumption))
  · exact .inr (.inr (by assumption))
  · cases h
theorem nmOk_ok {x : Str} (h : nmOk x = true) : (x == ("__debug__" : Str)) = false ∧ (x == ("__classdict__" : Str)) = false ∧ x ≠ ("__name__" : Str) := by
  unfold nmOk at h
  simp only [Bool.and_eq_true, Bool.not_eq_true', decide_eq_false_iff_not] at h
  exact ⟨beq_eq_false_iff_ne.mpr h.1.1, beq_eq_false_iff_ne.mpr h.1.2, h.2⟩
theorem slotB_ok {i : Nat} {x : Str} (h : slotB c i x = true) : c.N[i]? = some x ∧ Vis c.sc x ∧ (x == ("__debug__" : Str)) = false ∧ (x == ("__classdict__" : Str)) = false := by
  unfold slotB at h
  obtain ⟨h, h3⟩ := ba h
  obtain ⟨h1, h2⟩ := ba h
  exact ⟨of_decide_eq_true h1, visB_ok h2, (nmOk_ok h3).1, (nmOk_ok h3).2.1⟩
theorem glB_ok (xo : XB X c) {x : Str} (h : glB c.sc x = true) : Gl X x := by
  show X.env.scope.names.lookup x = _
  rw [xo.sc]; exact of_decide_eq_true h

theorem sn_var (xo : XB X c) {i : Nat} {x : Str} {pos : Pos} (h : slotB c i x = true) : PE X (.Name x pos) (rdE X.K g cs lv Wx (.var i)) := by
  obtain ⟨h1, h2, h3, h4⟩ := slotB_ok h
  refine PE.of (pe_var (i := i) (by rw [xo.N]; exact h1) (by rw [xo.sc]; exact h2) h3 h4) fun σ H Q ⟨W, s, r, ok, en, h⟩ => ?_
  obtain ⟨d, e, q⟩ := Post.opt h ok
  unfold getR at e
  split at e
  · rename_i d' hd
    cases e
    obtain ⟨v, e2, rp⟩ := en.at_ i _ hd
    exact ⟨v, e2, q v rp⟩
  · cases e
theorem sn_c {e : E} {ex : Expr} {d : D} {v : V} (h : PE X ex (tC v)) (he : ∀ r s, evE cs r e lv s = .ok d s) (hr : ∀ W, Rep X.K g W d v) : PE X ex (rdE X.K g cs lv Wx e) :=
  PE.of h fun σ H Q ⟨W, s, r, ok, en, h⟩ => by
    rw [he] at h
    exact Post.now h ok v (hr W)
/-- two in a row, by the operation's own reading -/
theorem sn_two {a b : E} {r2 : R2} {f : D → D → S → Out D} {σ : L2.St} {H : Hp} {Q : VK} (hr : ∀ W s H x y v u, Ok X.K g W s H → Rep X.K g W x v → Rep X.K g W y u → Post X.K g W H (f x y s) (fun d _ W' H' => ∀ v, Rep X.K g W' d v → Q v H') (fun c dd H' => Wx c dd σ H') → r2 v u H Q)
    (h : ∃ W s r, Ok X.K g W s H ∧ EnvR X.K g W H r σ ∧ Post X.K g W H (bnd (evE cs r a lv s) fun x s1 => bnd (evE cs r b lv s1) fun y s2 => f x y s2) (fun d _ W' H' => ∀ v, Rep X.K g W' d v → Q v H') (fun c dd H' => Wx c dd σ H')) :
    tOp r2 (rdE X.K g cs lv Wx a) (rdE X.K g cs lv Wx b) σ H Q := by
  obtain ⟨W, s, r, ok, en, h⟩ := h
  refine ⟨W, s, r, ok, en, (Post.bnd h).mono fun x s1 W1 H1 x1 ok1 h1 v r1 => ?_⟩
  refine ⟨W1, s1, r, ok1, en.ext x1, (Post.bnd h1).mono fun y s2 W2 H2 x2 ok2 h2 u r2 => ?_⟩
  exact hr W2 s2 H2 x y v u ok2 (r1.mono x2.le) r2 h2
theorem small {n : Nat} (h : n ≤ big) : n ≤ sizeLine := by
  rw [sizeLine_eq]; unfold big at h; omega
/-- a new tuple, a new list as an answer -/
theorem ans_tup {W : Wd} {s : S} {H : Hp} {ds : List D} {vs : List V} {Q : VK} {E : XK} {p : Addr} (ok : Ok X.K g W s H) (r : RepL X.K g W ds vs) (hp : H p = none)
    (h : Post X.K g W H (.ok (.tup ds) s) (fun d _ W' H' => ∀ v, Rep X.K g W' d v → Q v H') E) : Q (.ref p) (upd H p (.tup vs)) :=
  h _ _ (.alloc (ok.unF hp) hp) (ok.alloc hp) _ (rep_tup (ok.unF hp) r)
theorem ans_lst {W : Wd} {s : S} {H : Hp} {ds : List D} {vs : List V} {Q : VK} {E : XK} {p : Addr} (ok : Ok X.K g W s H) (r : RepL X.K g W ds vs) (hp : H p = none)
    (h : Post X.K g W H (.ok (.lst ds) s) (fun d _ W' H' => ∀ v, Rep X.K g W' d v → Q v H') E) : Q (.ref p) (upd H p (.lst vs)) :=
  h _ _ (.alloc (ok.unF hp) hp) (ok.alloc hp) _ (rep_lst (ok.unF hp) r)
theorem sqT_H {W : Wd} {s : S} {H : Hp} (ok : Ok X.K g W s H) {a : Addr} {vs : List V} (h : SqT X.K W.F a vs) : SqT X.K H a vs := sqT_mono ok.sub h
theorem sqL_H {W : Wd} {s : S} {H : Hp} (ok : Ok X.K g W s H) {a : Addr} {vs : List V} (h : SqL X.K W.F a vs) : SqL X.K H a vs := sqL_mono ok.sub h
/-- list + list, of any kind that is read -/
def rCatL (K : PySem.W.Frag) : R2 := fun x y H Q => ∃ l b xs zs, x = .ref l ∧ y = .ref b ∧ SqL K H l xs ∧ SqL K H b zs ∧ xs.length + zs.length ≤ sizeLine ∧ ∀ p, H p = none → Q (.ref p) (upd H p (.lst (xs ++ zs)))
theorem op_catL : OpR X (binaryOp .Add) (rCatL X.K) := by
  intro pins s σ H x y v u Q I rx ry ⟨l, b, xs, zs, ex, ey, hH, hB, hz, q⟩
  subst ex; subst ey
  cases rx; cases ry
  obtain ⟨its, rv, ⟨o, n, e1, c1, d1, k1⟩, z1⟩ := I.list hH
  obtain ⟨its2, rv2, ⟨o2, n2, e2, c2, d2, k2⟩, z2⟩ := I.list hB
  have l1 := rv.length
  have l2 := rv2.length
  obtain ⟨c, dd, da, sl⟩ := o
  obtain ⟨c', dd', da', sl'⟩ := o2
  simp only at c1 k1 c2 k2
  subst c1 k1 c2 k2
  have ea : its.toArray ++ its2.toArray = (its ++ its2).toArray := by simp
  refine concat_meets ⟨_, e1, rfl⟩ ⟨_, e2, rfl⟩ noFill_list_add seq_list_add
    PySem.F.slot_list_add PySem.F.entry_list_add (PySem.F.args_list_add_2 _ _)
    (list_addW l b its.toArray its2.toArray n n2 dd dd' sl sl' (by simp; omega)) ⟨e1, e2, ?_⟩
  rw [ea]
  exact ⟨.ref _, _, I.lnew (t' := s.toks) (rv.append rv2) (by rw [List.length_append]; omega), rfl, q _ I.fresh⟩
/-- list * int, of any kind that is read -/
def rRepL (K : PySem.W.Frag) : R2 := fun x y H Q => ∃ l k xs, x = .ref l ∧ y = .int k ∧ SqL K H l xs ∧ -(2 ^ 63) ≤ k ∧ k < 2 ^ 63 ∧ xs.length * k.toNat ≤ sizeLine ∧
  ∀ p, H p = none → Q (.ref p) (upd H p (.lst (List.replicate k.toNat xs).flatten))
theorem vals_rep {xs : List V} {us : List Value} (r : Vals xs us) : ∀ k : Nat, Vals (List.replicate k xs).flatten (List.replicate k us).flatten
  | 0 => .nil
  | k + 1 => by
    rw [List.replicate_succ, List.replicate_succ, List.flatten_cons, List.flatten_cons]; exact r.append (vals_rep r k)
theorem op_repL : OpR X (binaryOp .Mult) (rRepL X.K) := by
  intro pins s σ H x y v u Q I rx ry ⟨l, k, xs, ex, ey, hH, h1, h2, hz, q⟩
  subst ex; subst ey
  cases rx
  obtain ⟨t, rfl⟩ := ry
  obtain ⟨its, rv, ⟨o, n, e1, c1, d1, k1⟩, z1⟩ := I.list hH
  have l1 := rv.length
  obtain ⟨c, dd, da, sl⟩ := o
  simp only at c1 k1
  subst c1 k1
  have hlen : its.toArray.size * k.toNat ≤ sizeLine := by rw [List.size_toArray, ← l1]; exact hz
  have hfit : ¬ (!Builtin.List.listFitsIndex k) = true := by simp [Builtin.List.listFitsIndex]; omega
  have hcap : ¬ its.toArray.size * k.toNat > (2 ^ 63 - 1) / 8 := by
    have z : (sizeLine : Nat) ≤ (2 ^ 63 - 1) / 8 := by decide
    omega
  have hlong : ¬ Builtin.List.listTooLong (its.toArray.size * k.toNat) = true := by rw [notLongL hlen]; exact Bool.false_ne_true
  have hnew : List.foldl (fun x1 x2 => x1 ++ x2) #[] (List.replicate (if its.toArray.isEmpty = true then 0 else k.toNat) its.toArray) = (List.replicate k.toNat its).flatten.toArray := by
    have f0 : ∀ m : Nat, List.foldl (fun x1 x2 => x1 ++ x2) #[] (List.replicate m its.toArray) = (List.replicate m its).flatten.toArray := fun m => by
      have q := foldl_rep its m []
      rw [List.nil_append] at q; exact q
    rw [f0]
    cases its with
    | nil => simp
    | cons a r => rw [if_neg (by simp)]
  refine wpAny_binaryOp_repeat_ref (T := "list") (U := "int") (by decide) ⟨_, e1, rfl⟩ (fun s' => typeIs_int s' k t)
    noFill_list_mul F.fills_int_mul F.slot_int_rmul repeat_list F.slot_int_index.lookup (call_meets F.slot_int_rmul (typeIs_int s k t)
    F.entry_int_rmul (F.args_int_rmul_2 _ _) (lm_int_rmul_list_any k t l its.toArray n dd sl) ⟨e1, rfl, ⟨_, e1, rfl⟩,
    call_meets F.slot_list_mul ⟨_, e1, rfl⟩ F.entry_list_mul (F.args_list_mul_2 _ _) (lm_list_mul_any l its.toArray n dd sl k t hfit hcap hlong) ⟨e1, ?_⟩⟩)
  rw [hnew]
  exact ⟨.ref _, _, I.lnew (t' := s.toks) (vals_rep rv k.toNat) (by rw [PyProof.Rows.lm_len_rep_flat, Nat.mul_comm]; exact hz), rfl, q _ I.fresh⟩
theorem RepL.rep {W : Wd} {ds : List D} {vs : List V} (r : RepL X.K g W ds vs) : ∀ k : Nat, RepL X.K g W (List.replicate k ds).flatten (List.replicate k vs).flatten
  | 0 => rfl
  | k + 1 => by
    rw [List.replicate_succ, List.replicate_succ, List.flatten_cons, List.flatten_cons]; exact r.app (RepL.rep r k)
/-- what an operation of two values is to give -/
def Ans (K : PySem.W.Frag) (g : Ga) (W : Wd) (s : S) (H : Hp) (d : D) (Q : VK) : Prop := ∀ W' H' v, Ext W H W' H' → Ok K g W' s H' → Rep K g W' d v → Q v H'
theorem Ans.now {W : Wd} {s : S} {H : Hp} {d : D} {v : V} {Q : VK} (h : Ans X.K g W s H d Q) (ok : Ok X.K g W s H) (r : Rep X.K g W d v) : Q v H := h W H v (.refl W H) ok r
theorem Ans.tup {W : Wd} {s : S} {H : Hp} {ds : List D} {vs : List V} {Q : VK} {p : Addr} (h : Ans X.K g W s H (.tup ds) Q) (ok : Ok X.K g W s H) (r : RepL X.K g W ds vs) (hp : H p = none) : Q (.ref p) (upd H p (.tup vs)) :=
  h _ _ _ (.alloc (ok.unF hp) hp) (ok.alloc hp) (rep_tup (ok.unF hp) r)
theorem Ans.lst {W : Wd} {s : S} {H : Hp} {ds : List D} {vs : List V} {Q : VK} {p : Addr} (h : Ans X.K g W s H (.lst ds) Q) (ok : Ok X.K g W s H) (r : RepL X.K g W ds vs) (hp : H p = none) : Q (.ref p) (upd H p (.lst vs)) :=
  h _ _ _ (.alloc (ok.unF hp) hp) (ok.alloc hp) (rep_lst (ok.unF hp) r)
def r2D (K : PySem.W.Frag) (g : Ga) (f : D → D → Option D) : R2 := fun v u H Q => ∃ W s x y d, Ok K g W s H ∧ Rep K g W x v ∧ Rep K g W y u ∧ f x y = some d ∧ Ans K g W s H d Q
theorem op_bin (op : Bo) : OpR X (binaryOp (boOf op)) (r2D X.K g (binD op)) := by
  intro pins s0 σ H v u vv uu Q I rv ru ⟨W, s, x, y, d, ok, rx, ry, hd, a⟩
  unfold binD at hd
  split at hd
  · cases hd; cases rx; cases ry
    exact op_add pins s0 σ H _ _ vv uu Q I rv ru ⟨_, _, rfl, rfl, a.now ok rfl⟩
  · split at hd <;> cases hd
    rename_i hb
    cases rx; cases ry
    exact op_add_str pins s0 σ H _ _ vv uu Q I rv ru ⟨_, _, rfl, rfl, small hb, a.now ok rfl⟩
  · split at hd <;> cases hd
    rename_i xs ys hb
    obtain ⟨p, vs, rfl, hp, r1⟩ := rx
    obtain ⟨q, us, rfl, hq, r2⟩ := ry
    have l1 := r1.length
    have l2 := r2.length
    refine op_catA pins s0 σ H _ _ vv uu Q I rv ru ⟨p, q, vs, us, rfl, rfl, sqT_H ok hp, sqT_H ok hq, by rw [l1, l2]; exact small hb, fun e => ?_, fun _ e => ?_, fun _ _ z hz => a.tup ok (r1.app r2) hz⟩
    · subst e
      have e : xs = [] := List.eq_nil_of_length_eq_zero (by simpa using l1.symm)
      subst e
      exact a.now ok ⟨q, us, rfl, hq, r2⟩
    · subst e
      have e : ys = [] := List.eq_nil_of_length_eq_zero (by simpa using l2.symm)
      subst e
      rw [List.append_nil] at a
      exact a.now ok ⟨p, vs, rfl, hp, r1⟩
  · split at hd <;> cases hd
    rename_i xs ys hb
    obtain ⟨p, vs, rfl, hp, r1⟩ := rx
    obtain ⟨q, us, rfl, hq, r2⟩ := ry
    exact op_catL pins s0 σ H _ _ vv uu Q I rv ru ⟨p, q, vs, us, rfl, rfl, sqL_H ok hp, sqL_H ok hq, by rw [r1.length, r2.length]; exact small hb, fun z hz => a.lst ok (r1.app r2) hz⟩
  · cases hd; cases rx; cases ry
    exact op_sub pins s0 σ H _ _ vv uu Q I rv ru ⟨_, _, rfl, rfl, a.now ok rfl⟩
  · split at hd <;> cases hd
    rename_i hb
    cases rx; cases ry
    exact op_mul pins s0 σ H _ _ vv uu Q I rv ru ⟨_, _, rfl, rfl, .inl (by omega), a.now ok rfl⟩
  · split at hd <;> cases hd
    rename_i xs k hb
    obtain ⟨p, vs, rfl, hp, r1⟩ := rx
    cases ry
    refine op_repL pins s0 σ H _ _ vv uu Q I rv ru ⟨p, k, vs, rfl, rfl, sqL_H ok hp, ?_, ?_, by rw [r1.length]; exact small hb.2, fun z hz => a.lst ok (r1.rep _) hz⟩ <;>
    · have z := hb.1; unfold big at z; omega
  · split at hd <;> cases hd
    rename_i hb
    cases rx; cases ry
    exact op_fdivN pins s0 σ H _ _ vv uu Q I rv ru ⟨_, _, rfl, rfl, hb, a.now ok rfl⟩
  · split at hd <;> cases hd
    rename_i hb
    cases rx; cases ry
    exact op_modN pins s0 σ H _ _ vv uu Q I rv ru ⟨_, _, rfl, rfl, hb, a.now ok rfl⟩
  · split at hd <;> cases hd
    rename_i hb
    cases rx; cases ry
    exact op_pow pins s0 σ H _ _ vv uu Q I rv ru ⟨_, _, rfl, rfl, ⟨hb.1, by omega, hb.2.2⟩, a.now ok rfl⟩
  · cases hd
/-! ### comparisons -/
mutual
theorem rep_dp {W : Wd} {s : S} {H : Hp} (ok : Ok X.K g W s H) : ∀ {d : D} {v : V} {p : PyData}, Rep X.K g W d v → d.py = some p → Dp X.K H v p
  | .non, _, _, h, e => by cases h; cases e; exact .non
  | .bl b, _, _, h, e => by cases h; cases e; exact .bl b
  | .int i, _, _, h, e => by cases h; cases e; exact .int i
  | .str x, _, _, h, e => by cases h; cases e; exact .str x
  | .tup ds, _, _, ⟨a, vs, ev, h, r⟩, e => by
    unfold D.py at e
    obtain ⟨ps, e1, e2⟩ := Option.map_eq_some_iff.mp e
    subst e2; subst ev
    exact .tup (sqT_H ok h) (repL_dp ok r e1)
  | .lst ds, _, _, ⟨a, vs, ev, h, r⟩, e => by
    unfold D.py at e
    obtain ⟨ps, e1, e2⟩ := Option.map_eq_some_iff.mp e
    subst e2; subst ev
    exact .lst (sqL_H ok h) (repL_dp ok r e1)
  | .box _, _, _, _, e => by unfold D.py at e; cases e
  | .fn _, _, _, _, e => by unfold D.py at e; cases e
  | .xc _, _, _, _, e => by unfold D.py at e; cases e
theorem repL_dp {W : Wd} {s : S} {H : Hp} (ok : Ok X.K g W s H) : ∀ {ds : List D} {vs : List V} {ps : List PyData}, RepL X.K g W ds vs → pyAll ds = some ps → DpAll X.K H vs ps
  | [], _, _, h, e => by cases h; unfold pyAll at e; cases e; exact .nil
  | d :: ds, _, _, ⟨v, r, ev, h, hr⟩, e => by
    unfold pyAll at e
    subst ev
    split at e
    · cases e
      exact .cons (rep_dp ok h (by assumption)) (repL_dp ok hr (by assumption))
    · cases e
end
theorem eqD_ok {x y : D} {b : Bool} (h : eqD x y = some b) : ∃ p q, x.py = some p ∧ y.py = some q ∧ SeqAt.shaped p = true ∧ SeqAt.shaped q = true ∧ PyData.eqv p q = b := by
  unfold eqD at h
  split at h
  · rename_i p q e1 e2
    split at h
    · rename_i hs
      cases h
      exact ⟨p, q, e1, e2, (ba hs).1, (ba hs).2, rfl⟩
    · cases h
  · cases h
theorem eqAt_D {pins : List (Addr × Obj)} {σ : L2.St} {H : Hp} {s0 : Shared} {W : Wd} {s : S} {x y : D} {v u : V} {vv uu : Value} {b : Bool} {A : Around} (I : Inv X pins σ H s0) (ok : Ok X.K g W s H) (rx : Rep X.K g W x v) (ry : Rep X.K g W y u) (rv : RelV v vv) (ru : RelV u uu)
    (h : eqD x y = some b) (hu : A.units + 64 < cLine) : SeqAt.EqAt A s0 vv uu b := by
  obtain ⟨p, q, e1, e2, s1, s2, e⟩ := eqD_ok h
  obtain ⟨as, r1⟩ := Dp.reads I p v vv (rep_dp ok rx e1) rv
  obtain ⟨bs, r2⟩ := Dp.reads I q u uu (rep_dp ok ry e2) ru
  rw [← e]
  exact SeqAt.eqAt_reads p q A s0 vv uu as bs r1 r2 (SeqAt.canLay_of_shaped s1) (SeqAt.canLay_of_shaped s2) (SeqAt.room_of_shaped s1 hu)
def opLt (up : Bool) : CmpOp := if up then .Lt else .Gt
/-- what the pairs of items say, by place -/
theorem ltL_at {up : Bool} : ∀ {xs ys : List D} {b : Bool}, ltL up xs ys = some b →
    (∀ (j : Nat) (x y : D), xs[j]? = some x → ys[j]? = some y → (∃ e, eqD x y = some e) ∧ (eqD x y = some false → ∃ r, ltG up x y = some r)) ∧
    ∀ (e r : Nat → Bool) (k : Nat), (∀ j x y, xs[j]? = some x → ys[j]? = some y → eqD x y = some (e (j + k)) ∧ (e (j + k) = false → ltG up x y = some (r (j + k)))) →
      Ob.lexAt e r (if up then decide (xs.length < ys.length) else decide (xs.length > ys.length)) k (min xs.length ys.length) = b
  | [], [], b, h => by
    unfold ltL at h; cases h
    refine ⟨fun j x y h1 _ => by simp at h1, fun e r k _ => ?_⟩
    cases up <;> rfl
  | [], _ :: _, b, h => by
    unfold ltL at h; cases h
    refine ⟨fun j x y h1 _ => by simp at h1, fun e r k _ => ?_⟩
    cases up <;> simp [Ob.lexAt]
  | _ :: _, [], b, h => by
    unfold ltL at h; cases h
    refine ⟨fun j x y _ h1 => by simp at h1, fun e r k _ => ?_⟩
    cases up <;> simp [Ob.lexAt]
  | x :: xs, y :: ys, b, h => by
    unfold ltL at h
    have lz : (if up then decide ((x :: xs).length < (y :: ys).length) else decide ((x :: xs).length > (y :: ys).length)) = (if up then decide (xs.length < ys.length) else decide (xs.length > ys.length)) := by simp
    have lm : min (x :: xs).length (y :: ys).length = min xs.length ys.length + 1 := by simp only [List.length_cons]; omega
    have shift : ∀ {e r : Nat → Bool} {k : Nat}, (∀ j x' y', (x :: xs)[j]? = some x' → (y :: ys)[j]? = some y' → eqD x' y' = some (e (j + k)) ∧ (e (j + k) = false → ltG up x' y' = some (r (j + k)))) →
        ∀ j x' y', xs[j]? = some x' → ys[j]? = some y' → eqD x' y' = some (e (j + (k + 1))) ∧ (e (j + (k + 1)) = false → ltG up x' y' = some (r (j + (k + 1)))) := fun {e r k} q j x' y' h1 h2 => by
      have z := q (j + 1) x' y' (by simpa using h1) (by simpa using h2)
      rw [show j + 1 + k = j + (k + 1) by omega] at z; exact z
    split at h
    · rename_i he
      obtain ⟨i1, i2⟩ := ltL_at h
      refine ⟨fun j x' y' h1 h2 => ?_, fun e r k q => ?_⟩
      · cases j with
        | zero =>
          simp at h1 h2; subst h1; subst h2
          exact ⟨⟨_, he⟩, fun z => by rw [he] at z; cases z⟩
        | succ j => exact i1 j x' y' (by simpa using h1) (by simpa using h2)
      · have q0 := q 0 x y (by simp) (by simp)
        rw [Nat.zero_add] at q0
        have ek : e k = true := by have z := q0.1; rw [he] at z; exact (Option.some.inj z).symm
        rw [lz, lm, Ob.lexAt_succ, if_pos ek]
        exact i2 e r (k + 1) (shift q)
    · rename_i he
      split at h
      · rename_i b' c hl hr
        cases h
        obtain ⟨i1, _⟩ := ltL_at hr
        refine ⟨fun j x' y' h1 h2 => ?_, fun e r k q => ?_⟩
        · cases j with
          | zero =>
            simp at h1 h2; subst h1; subst h2
            exact ⟨⟨_, he⟩, fun _ => ⟨_, hl⟩⟩
          | succ j => exact i1 j x' y' (by simpa using h1) (by simpa using h2)
        · have q0 := q 0 x y (by simp) (by simp)
          rw [Nat.zero_add] at q0
          have ek : e k = false := by have z := q0.1; rw [he] at z; exact (Option.some.inj z).symm
          have rk := q0.2 ek
          rw [hl] at rk
          rw [lm, Ob.lexAt_succ, if_neg (by rw [ek]; exact Bool.false_ne_true)]
          exact (Option.some.inj rk).symm
      · cases h
    · cases h
theorem in1_units {A : Around} : A.in1.units = A.units + 1 := rfl
mutual
/-- the order of two things by the library -/
theorem rc_lt {up : Bool} {pins : List (Addr × Obj)} {σ : L2.St} {H : Hp} {s0 : Shared} {W : Wd} {s : S} (I : Inv X pins σ H s0) (ok : Ok X.K g W s H) : ∀ (x y : D) {v u : V} {vv uu : Value} {b : Bool} {A : Around} {n : Nat}, Rep X.K g W x v → Rep X.K g W y u → RelV v vv → RelV u uu →
    ltG up x y = some b → dep x ≤ n → A.units + 64 + n < cLine → Ob.RcOp (opLt up) A s0 vv uu b
  | .int i, y, v, u, vv, uu, b, A, n, rx, ry, rv, ru, h, hn, hu => by
    cases y <;> unfold ltG at h <;> cases h
    cases rx; cases ry
    obtain ⟨t, rfl⟩ := rv
    obtain ⟨t', rfl⟩ := ru
    cases up
    · exact Ob.RcOp.gt_int _ _ _ _
    · exact Ob.RcOp.lt_int _ _ _ _
  | .tup xs, y, v, u, vv, uu, b, A, n, rx, ry, rv, ru, h, hn, hu => by
    cases y with
    | tup ys =>
      unfold ltG at h
      unfold dep at hn
      obtain ⟨a, vs, ea, ha, r1⟩ := rx
      obtain ⟨a', us, ea', ha', r2⟩ := ry
      subst ea; subst ea'
      cases rv; cases ru
      obtain ⟨its, rvs, p1, _⟩ := I.tuple (sqT_H ok ha)
      obtain ⟨its2, rus, p2, _⟩ := I.tuple (sqT_H ok ha')
      obtain ⟨q1, q2⟩ := ltL_at h
      have l1 : its.length = xs.length := by rw [← rvs.length, r1.length]
      have l2 : its2.length = ys.length := by rw [← rus.length, r2.length]
      have hd : ∀ (j : Nat) (h1 : j < its.toArray.size) (h2 : j < its2.toArray.size), ∃ x y v u, xs[j]? = some x ∧ ys[j]? = some y ∧ Rep X.K g W x v ∧ Rep X.K g W y u ∧ RelV v its.toArray[j] ∧ RelV u its2.toArray[j] := fun j h1 h2 => by
        have j1 : j < xs.length := by simp at h1; omega
        have j2 : j < ys.length := by simp at h2; omega
        obtain ⟨v, e1, rp1⟩ := r1.get (List.getElem?_eq_getElem j1)
        obtain ⟨u, e2, rp2⟩ := r2.get (List.getElem?_eq_getElem j2)
        obtain ⟨w1, e3, rl1⟩ := rvs.get e1
        obtain ⟨w2, e4, rl2⟩ := rus.get e2
        refine ⟨xs[j], ys[j], v, u, List.getElem?_eq_getElem j1, List.getElem?_eq_getElem j2, rp1, rp2, ?_, ?_⟩
        · have z : its[j]? = some its.toArray[j] := by simp at h1; simp [h1]
          rw [z] at e3; cases e3; exact rl1
        · have z : its2[j]? = some its2.toArray[j] := by simp at h2; simp [h2]
          rw [z] at e4; cases e4; exact rl2
      let e : Nat → Bool := fun j => ((xs[j]?.bind fun x => ys[j]?.bind fun y => eqD x y)).getD true
      let r : Nat → Bool := fun j => ((xs[j]?.bind fun x => ys[j]?.bind fun y => ltG up x y)).getD true
      have he : ∀ (j : Nat) (x y : D), xs[j]? = some x → ys[j]? = some y → eqD x y = some (e j) := fun j x y h1 h2 => by
        obtain ⟨⟨k, hk⟩, _⟩ := q1 j x y h1 h2
        show _ = some (((xs[j]?.bind fun x => ys[j]?.bind fun y => eqD x y)).getD true)
        rw [h1, h2]
        show _ = some ((eqD x y).getD true)
        rw [hk]; rfl
      have hr : ∀ (j : Nat) (x y : D), xs[j]? = some x → ys[j]? = some y → e j = false → ltG up x y = some (r j) := fun j x y h1 h2 h3 => by
        obtain ⟨k, hk⟩ := (q1 j x y h1 h2).2 (by rw [he j x y h1 h2, h3])
        show _ = some (((xs[j]?.bind fun x => ys[j]?.bind fun y => ltG up x y)).getD true)
        rw [h1, h2]
        show _ = some ((ltG up x y).getD true)
        rw [hk]; rfl
      have eb := q2 e r 0 fun j x y h1 h2 => ⟨by rw [Nat.add_zero]; exact he j x y h1 h2, fun z => by rw [Nat.add_zero] at z ⊢; exact hr j x y h1 h2 z⟩
      have huA : A.units < cLine := by omega
      have E : ∀ (j : Nat) (h1 : j < its.toArray.size) (h2 : j < its2.toArray.size), SeqAt.EqAt A.in1 s0 its.toArray[j] its2.toArray[j] (e j) := fun j h1 h2 => by
        obtain ⟨x, y, v, u, g1, g2, g3, g4, g5, g6⟩ := hd j h1 h2
        exact eqAt_D I ok g3 g4 g5 g6 (he j x y g1 g2) (by rw [in1_units]; omega)
      have R : ∀ (j : Nat) (h1 : j < its.toArray.size) (h2 : j < its2.toArray.size), e j = false → Ob.RcOp (opLt up) A.in1 s0 its.toArray[j] its2.toArray[j] (r j) := fun j h1 h2 h3 => by
        obtain ⟨x, y, v, u, g1, g2, g3, g4, g5, g6⟩ := hd j h1 h2
        exact rc_ltL I ok xs j x y g1 g3 g4 g5 g6 (hr j x y g1 g2 h3) (n := n - 1) (by omega) (by rw [in1_units]; omega)
      rw [← eb]
      cases up with
      | true =>
        have z := Ob.RcOp.tuples_lt p1 p2 huA E R
        rw [List.size_toArray, List.size_toArray, l1, l2] at z
        exact z
      | false =>
        have z := Ob.RcOp.tuples_gt p1 p2 huA E R
        rw [List.size_toArray, List.size_toArray, l1, l2] at z
        exact z
    | _ => unfold ltG at h; cases h
  | .non, y, _, _, _, _, _, _, _, _, _, _, _, h, _, _ => by cases y <;> unfold ltG at h <;> cases h
  | .bl _, y, _, _, _, _, _, _, _, _, _, _, _, h, _, _ => by cases y <;> unfold ltG at h <;> cases h
  | .str _, y, _, _, _, _, _, _, _, _, _, _, _, h, _, _ => by cases y <;> unfold ltG at h <;> cases h
  | .lst _, y, _, _, _, _, _, _, _, _, _, _, _, h, _, _ => by cases y <;> unfold ltG at h <;> cases h
  | .box _, y, _, _, _, _, _, _, _, _, _, _, _, h, _, _ => by cases y <;> unfold ltG at h <;> cases h
  | .fn _, y, _, _, _, _, _, _, _, _, _, _, _, h, _, _ => by cases y <;> unfold ltG at h <;> cases h
  | .xc _, y, _, _, _, _, _, _, _, _, _, _, _, h, _, _ => by cases y <;> unfold ltG at h <;> cases h
theorem rc_ltL {up : Bool} {pins : List (Addr × Obj)} {σ : L2.St} {H : Hp} {s0 : Shared} {W : Wd} {s : S} (I : Inv X pins σ H s0) (ok : Ok X.K g W s H) : ∀ (xs : List D) (j : Nat) (x y : D) {v u : V} {vv uu : Value} {b : Bool} {A : Around} {n : Nat}, xs[j]? = some x → Rep X.K g W x v → Rep X.K g W y u → RelV v vv → RelV u uu →
    ltG up x y = some b → depL xs ≤ n → A.units + 64 + n < cLine → Ob.RcOp (opLt up) A s0 vv uu b
  | [], j, x, y, _, _, _, _, _, _, _, e, _, _, _, _, _, _, _ => by simp at e
  | z :: zs, 0, x, y, _, _, _, _, _, _, n, e, rx, ry, rv, ru, h, hn, hu => by
    simp at e; subst e
    unfold depL at hn
    exact rc_lt I ok z y rx ry rv ru h (n := n) (by omega) hu
  | z :: zs, j + 1, x, y, _, _, _, _, _, _, n, e, rx, ry, rv, ru, h, hn, hu => by
    unfold depL at hn
    exact rc_ltL I ok zs j x y (by simpa using e) rx ry rv ru h (n := n) (by omega) hu
end
theorem room_cmp (r : Room lv X.A) {n : Nat} (h : n ≤ 64) : X.A.units + 64 + n < cLine := by
  have := r.un
  omega
theorem rc_cmp {A : Around} {s0 : Shared} {vv uu : Value} {b : Bool} {op : CmpOp} {P : Program} {w : World} {Q E : Value → Shared → Prop} (h : Ob.RcOp op A s0 vv uu b) (ho : op = .Lt ∨ op = .Gt) (q : Q (.bool b) s0) : wpAny (model P w) A (compareOp op vv uu) Q E s0 := by
  rcases ho with e | e <;> subst e <;> exact h P w E Q q
theorem opt_map {α β : Type} {o : Option α} {f : α → β} {b : β} (h : o.map f = some b) : ∃ a, o = some a ∧ f a = b := Option.map_eq_some_iff.mp h
theorem inD_ok {x : D} {ys : List D} {b : Bool} (h : inD x ys = some b) : ∃ d ds, x.py = some d ∧ pyAll ys = some ds ∧ SeqAt.shaped d = true ∧ SeqAt.shaped (.list ds) = true ∧ (ds.any fun z => PyData.eqv z d) = b := by
  unfold inD at h
  split at h
  · rename_i p q e1 e2
    split at h
    · rename_i hs
      cases h
      exact ⟨p, q, e1, e2, (ba hs).1, (ba hs).2, rfl⟩
    · cases h
  · cases h
theorem room_in {d : PyData} {ds : List PyData} {A : Around} (h : SeqAt.shaped (.list ds) = true) (hu : A.units + 65 < cLine) : A.units + 1 + min (PyData.depthAll ds) d.depth < cLine := by
  have h1 := SeqAt.depth_of_shaped h
  have e : PyData.depth (.list ds) = PyData.depthAll ds + 1 := by simp [PyData.depth]
  rw [e] at h1
  have h2 : min (PyData.depthAll ds) d.depth ≤ PyData.depthAll ds := Nat.min_le_left _ _
  omega
theorem lay_list {ds : List PyData} (h : SeqAt.shaped (.list ds) = true) : PyData.canLayAll0 ds = true := SeqAt.canLay_of_shaped h
theorem rep_non {W : Wd} {x : D} {v : V} (h : Rep X.K g W x v) : (decide (v = V.non)) = (match x with | .non => true | _ => false) := by
  cases x with
  | non => cases h; rfl
  | bl b => cases h; rfl
  | int i => cases h; rfl
  | str x => cases h; rfl
  | tup ds => obtain ⟨a, vs, rfl, _⟩ := h; rfl
  | lst ds => obtain ⟨a, vs, rfl, _⟩ := h; rfl
  | box k => obtain ⟨a, rfl, _⟩ := h; rfl
  | fn f => obtain ⟨a, rfl, _⟩ := h; rfl
  | xc k => obtain ⟨a, d, rfl, _⟩ := h; rfl
theorem op_cmpD (hr : Room lv X.A) (op : Co) : OpR X (compareOp (coOf op)) (r2D X.K g fun x y => (cmpD op x y).map .bl) := by
  intro pins s0 σ H v u vv uu Q I rv ru ⟨W, s, x, y, d, ok, rx, ry, hd, a⟩
  obtain ⟨b, hb, e⟩ := opt_map hd
  subst e
  have fin : EP X pins σ Q (.bool b) s0 := ⟨.bl b, H, I, rfl, a.now ok rfl⟩
  have hu : X.A.units + 65 < cLine := by have := room_cmp hr (n := 1) (by omega); omega
  unfold cmpD at hb
  split at hb
  · obtain ⟨p, q, e1, e2, s1, s2, e⟩ := eqD_ok hb
    exact op_eqD (by omega) pins s0 σ H v u vv uu Q I rv ru ⟨p, q, rep_dp ok rx e1, rep_dp ok ry e2, s1, s2, by rw [e]; exact a.now ok rfl⟩
  · obtain ⟨b', hb', eb⟩ := opt_map hb
    obtain ⟨p, q, e1, e2, s1, s2, e⟩ := eqD_ok hb'
    subst eb
    exact op_neD (by omega) pins s0 σ H v u vv uu Q I rv ru ⟨p, q, rep_dp ok rx e1, rep_dp ok ry e2, s1, s2, by rw [e]; exact a.now ok rfl⟩
  · split at hb
    · rename_i hn
      exact rc_cmp (rc_lt (up := true) I ok x y rx ry rv ru hb hn (room_cmp hr (Nat.le_refl _))) (.inl rfl) fin
    · cases hb
  · split at hb
    · rename_i hn
      exact rc_cmp (rc_lt (up := false) I ok x y rx ry rv ru hb hn (room_cmp hr (Nat.le_refl _))) (.inr rfl) fin
    · cases hb
  · cases hb; cases rx; cases ry
    exact op_le pins s0 σ H _ _ vv uu Q I rv ru ⟨_, _, rfl, rfl, a.now ok rfl⟩
  · cases hb; cases rx; cases ry
    exact op_ge pins s0 σ H _ _ vv uu Q I rv ru ⟨_, _, rfl, rfl, a.now ok rfl⟩
  · cases hb; cases rx; cases ry
    exact op_isN pins s0 σ H _ _ vv uu Q I rv ru ⟨rfl, a.now ok rfl⟩
  · rename_i hx
    cases hb
    have z := rep_non rx
    cases ry
    refine op_isN pins s0 σ H _ _ vv uu Q I rv ru ⟨rfl, ?_⟩
    rw [z]
    cases x <;> first | exact a.now ok rfl | exact (hx rfl).elim
  · cases hb; cases rx; cases ry
    exact op_notN pins s0 σ H _ _ vv uu Q I rv ru ⟨rfl, a.now ok rfl⟩
  · rename_i hx
    cases hb
    have z := rep_non rx
    cases ry
    refine op_notN pins s0 σ H _ _ vv uu Q I rv ru ⟨rfl, ?_⟩
    rw [z]
    cases x <;> first | exact a.now ok rfl | exact (hx rfl).elim
  · rename_i ys
    obtain ⟨p, q, e1, e2, s1, s2, e⟩ := inD_ok hb
    obtain ⟨as, r1⟩ := Dp.reads I p v vv (rep_dp ok rx e1) rv
    obtain ⟨bs, r2⟩ := Dp.reads I (.tuple q) u uu (rep_dp ok ry (by unfold D.py; rw [e2]; rfl)) ru
    exact SeqAt.in_tuple_reads r2 r1 (lay_list s2) (SeqAt.canLay_of_shaped s1) (room_in s2 hu) (by rw [e]; exact fin)
  · rename_i ys
    obtain ⟨p, q, e1, e2, s1, s2, e⟩ := inD_ok hb
    exact op_inD hu pins s0 σ H v u vv uu Q I rv ru ⟨p, q, rep_dp ok rx e1, rep_dp ok ry (by unfold D.py; rw [e2]; rfl), s1, s2, by rw [e]; exact a.now ok rfl⟩
  · rename_i ys
    obtain ⟨b', hb', eb⟩ := opt_map hb
    obtain ⟨p, q, e1, e2, s1, s2, e⟩ := inD_ok hb'
    obtain ⟨as, r1⟩ := Dp.reads I p v vv (rep_dp ok rx e1) rv
    obtain ⟨bs, r2⟩ := Dp.reads I (.tuple q) u uu (rep_dp ok ry (by unfold D.py; rw [e2]; rfl)) ru
    subst eb
    exact SeqAt.notIn_tuple_reads r2 r1 (lay_list s2) (SeqAt.canLay_of_shaped s1) (room_in s2 hu) (by rw [e]; exact fin)
  · rename_i ys
    obtain ⟨b', hb', eb⟩ := opt_map hb
    obtain ⟨p, q, e1, e2, s1, s2, e⟩ := inD_ok hb'
    subst eb
    exact op_notInD hu pins s0 σ H v u vv uu Q I rv ru ⟨p, q, rep_dp ok rx e1, rep_dp ok ry (by unfold D.py; rw [e2]; rfl), s1, s2, by rw [e]; exact a.now ok rfl⟩
  · cases hb
end
end Tw
end
section
/-! Part D: subscripts, slices, built-ins, displays, chains. -/
namespace Tw
open PySem PySem.Spec PyProof.Rows L2
section
variable {X : Cx} {c : Cc} {t : Tn} {g : Ga} {cs : Cs} {Wx : WX} {lv : Nat}
/-! ### subscripts -/
theorem RepL.atI {W : Wd} {ds : List D} {vs : List V} (r : RepL X.K g W ds vs) {i : Int} {d : D} (h : L2.atI ds i = some d) : ∃ v, L2.atI vs i = some v ∧ Rep X.K g W d v := by
  unfold L2.atI at h ⊢
  rw [r.length]
  obtain ⟨j, e1, e2⟩ := Option.bind_eq_some_iff.mp h
  obtain ⟨v, e3, rp⟩ := r.get e2
  exact ⟨v, by rw [e1]; exact e3, rp⟩
def r2S (K : PySem.W.Frag) (g : Ga) (f : D → D → S → Option D) : R2 := fun v u H Q => ∃ W s x y d, Ok K g W s H ∧ Rep K g W x v ∧ Rep K g W y u ∧ f x y s = some d ∧ Ans K g W s H d Q
theorem ix_D : IxR X (r2S X.K g idxD) := by
  intro value slice pins s0 σ H v u vv uu Q I rv ru ⟨W, s, x, y, d, ok, rx, ry, hd, a⟩ hs
  unfold idxD at hd
  split at hd
  · obtain ⟨p, vs, rfl, hp, r1⟩ := rx
    cases ry
    obtain ⟨w, e, rp⟩ := r1.atI hd
    exact ix_tup value slice pins s0 σ H _ _ vv uu Q I rv ru ⟨p, vs, _, w, rfl, rfl, sqT_H ok hp, e, a.now ok rp⟩ hs
  · obtain ⟨p, vs, rfl, hp, r1⟩ := rx
    cases ry
    obtain ⟨w, e, rp⟩ := r1.atI hd
    exact ix_list value slice pins s0 σ H _ _ vv uu Q I rv ru ⟨p, vs, _, w, rfl, rfl, sqL_H ok hp, e, a.now ok rp⟩ hs
  · obtain ⟨p, rfl, hb⟩ := rx
    split at hd
    · rename_i hk
      cases ry
      obtain ⟨vs, h1, r1⟩ := ok.box _ p _ hb hk
      obtain ⟨w, e, rp⟩ := r1.atI hd
      exact ix_list value slice pins s0 σ H _ _ vv uu Q I rv ru ⟨p, vs, _, w, rfl, rfl, SqL.of h1, e, a.now ok rp⟩ hs
    · cases hd
  · cases hd
theorem noSlice_ok {b : Expr} (h : noSlice b = true) : PlainIx b := by
  cases b <;> first | exact fun _ _ => rfl | cases h
theorem sn_idx {a i : E} {x y : Expr} {pos : Pos} (hs : noSlice y = true) (ha : PE X x (rdE X.K g cs lv Wx a)) (hi : PE X y (rdE X.K g cs lv Wx i)) : PE X (.Subscript x y pos) (rdE X.K g cs lv Wx (.idx a i)) :=
  PE.of (pe_ix (ix_D (g := g)) ha hi (noSlice_ok hs)) fun σ H Q h => sn_two (f := fun x y s => opt (idxD x y s) s) (fun W s H x y v u ok rx ry h => by
    obtain ⟨d, e, _⟩ := Post.opt h ok
    rw [e] at h
    exact ⟨W, s, x, y, d, ok, rx, ry, e, fun W' H' v e o r => h W' H' e o v r⟩) h
theorem sn_bin {op : Bo} {a b : E} {x y : Expr} {pos : Pos} (ha : PE X x (rdE X.K g cs lv Wx a)) (hb : PE X y (rdE X.K g cs lv Wx b)) : PE X (.BinOp x (boOf op) y pos) (rdE X.K g cs lv Wx (.bin op a b)) :=
  PE.of (pe_op (op_bin (g := g) op) ha hb) fun σ H Q h => sn_two (f := fun x y s => opt (binD op x y) s) (fun W s H x y v u ok rx ry h => by
    obtain ⟨d, e, _⟩ := Post.opt h ok
    rw [e] at h
    exact ⟨W, s, x, y, d, ok, rx, ry, e, fun W' H' v e o r => h W' H' e o v r⟩) h
theorem sn_cmp (hr : Room lv X.A) {op : Co} {a b : E} {x y : Expr} {pos : Pos} (hm : behindInMarks (coOf op) y = false) (ha : PE X x (rdE X.K g cs lv Wx a)) (hb : PE X y (rdE X.K g cs lv Wx b)) : PE X (.Compare x [coOf op] [y] pos) (rdE X.K g cs lv Wx (.cmp op a b)) :=
  PE.of (pe_cmpR (op_cmpD (g := g) hr op) ha hb hm) fun σ H Q h => sn_two (f := fun x y s => opt ((cmpD op x y).map .bl) s) (fun W s H x y v u ok rx ry h => by
    obtain ⟨d, e, _⟩ := Post.opt h ok
    rw [e] at h
    exact ⟨W, s, x, y, d, ok, rx, ry, e, fun W' H' v e o r => h W' H' e o v r⟩) h
theorem sn_oidx (xo : XOk g X c Wx lv) {i : Nat} {j : E} {x : Str} {y : Expr} {pos p : Pos} (hs : noSlice y = true) (h : slotB c i x = true) (hi : PE X y (rdE X.K g cs lv Wx j)) : PE X (.Subscript (.Name x p) y pos) (rdE X.K g cs lv Wx (.oidx i j)) := by
  obtain ⟨h1, h2, h3, h4⟩ := slotB_ok h
  refine PE.of (pe_ix ((ix_list).or (ix_D (g := g))) (pe_var (i := i) (by rw [xo.N]; exact h1) (by rw [xo.sc]; exact h2) h3 h4) hi (noSlice_ok hs)) fun σ H Q ⟨W, s, r, ok, en, h⟩ => ?_
  unfold evE at h
  split at h
  · rename_i xs hx
    obtain ⟨a, vs, e1, e2, rp, _, nb⟩ := en.at_ i _ hx
    refine ⟨.ref a, e1, W, s, r, ok, en, (Post.bnd h).mono fun y s1 W1 H1 x1 ok1 h1 u ru => ?_⟩
    cases y with
    | int k =>
      obtain ⟨d, e, q⟩ := Post.opt h1 ok1
      obtain ⟨w, e3, rw'⟩ := RepL.atI (rp.mono x1.le) e
      cases ru
      exact .inl ⟨a, vs, k, w, rfl, rfl, SqL.of (x1.keep a _ e2 nb (fun ps z => nomatch z)), e3, q w rw'⟩
    | _ => exact h1.elim
  · rename_i x' hx
    obtain ⟨v, e1, rp⟩ := en.at_ i _ hx
    refine ⟨v, e1, W, s, r, ok, en, (Post.bnd h).mono fun y s1 W1 H1 x1 ok1 h1 u ru => ?_⟩
    obtain ⟨d, e, _⟩ := Post.opt h1 ok1
    rw [e] at h1
    exact .inr ⟨W1, s1, x', y, d, ok1, rp.mono x1.le, ru, e, fun W' H' v e o r => h1 W' H' e o v r⟩
  · exact h.elim
/-! ### slices -/
theorem RepL.cut {W : Wd} {ds : List D} {vs : List V} (r : RepL X.K g W ds vs) (lo hi : Option Int) : RepL X.K g W (cutD ds lo hi) (cutV vs lo hi) := by
  unfold cutD cutV
  rw [r.length]
  exact (r.drop _).take _
def rSlD (K : PySem.W.Frag) (g : Ga) : V → Option Int → Option Int → Hp → VK → Prop := fun v lo hi H Q => ∃ W s x d, Ok K g W s H ∧ Rep K g W x v ∧ slD x lo hi = some d ∧ Ans K g W s H d Q
theorem cutD_all {ds : List D} {lo hi : Option Int} (h : HT.sIx ds.length 0 lo = 0 ∧ HT.sIx ds.length ds.length hi = ds.length) : cutD ds lo hi = ds := by
  unfold cutD
  rw [h.1, h.2]; simp
theorem sl_D : L2.SlR X (rSlD X.K g) := by
  intro pins s0 σ H v vv vl vu lo hi sl Q I rv hs pl pu ⟨W, s, x, d, ok, rx, hd, a⟩
  unfold slD at hd
  split at hd
  · rename_i ds
    cases hd
    obtain ⟨p, vs, rfl, hp, r1⟩ := rx
    refine sl_tupA pins s0 σ H _ vv vl vu lo hi sl Q I rv hs pl pu ⟨p, vs, rfl, sqT_H ok hp, fun e => ?_, fun _ z hz => a.tup ok (r1.cut lo hi) hz⟩
    rw [r1.length] at e
    rw [cutD_all e] at a
    exact a.now ok ⟨p, vs, rfl, hp, r1⟩
  · rename_i ds
    cases hd
    obtain ⟨p, vs, rfl, hp, r1⟩ := rx
    exact sl_list pins s0 σ H _ vv vl vu lo hi sl Q I rv hs pl pu ⟨p, vs, rfl, sqL_H ok hp, fun z hz => a.lst ok (r1.cut lo hi) hz⟩
  · cases hd
theorem sn_no : PO X none (rdO X.K g cs lv Wx .no) := PO.of po_none fun σ H Q ⟨W, s, r, ok, en, h⟩ => Post.now h ok
theorem sn_so {a : E} {x : Expr} (ha : PE X x (rdE X.K g cs lv Wx a)) : PO X (some x) (rdO X.K g cs lv Wx (.so a)) := PO.of (po_some ha) fun σ H Q ⟨W, s, r, ok, en, h⟩ =>
  ⟨W, s, r, ok, en, (Post.bnd h).mono fun y s1 W1 H1 x1 ok1 h1 u ru => by
    cases y with
    | int k => cases ru; exact ⟨k, rfl, Post.now h1 ok1⟩
    | _ => exact h1.elim⟩
theorem sn_sl {a : E} {lo hi : Eo} {x : Expr} {l h : Option Expr} {p pos : Pos} (ha : PE X x (rdE X.K g cs lv Wx a)) (hl : PO X l (rdO X.K g cs lv Wx lo)) (hh : PO X h (rdO X.K g cs lv Wx hi)) :
    PE X (.Subscript x (.Slice l h none p) pos) (rdE X.K g cs lv Wx (.sl a lo hi)) :=
  PE.of (pe_slice (sl_D (g := g)) ha hl hh) fun σ H Q ⟨W, s, r, ok, en, h⟩ =>
    ⟨W, s, r, ok, en, (Post.bnd h).mono fun y s1 W1 H1 x1 ok1 h1 u ru => ⟨W1, s1, r, ok1, en.ext x1, (Post.bnd h1).mono fun l s2 W2 H2 x2 ok2 h2 =>
      ⟨W2, s2, r, ok2, (en.ext x1).ext x2, (Post.bnd h2).mono fun hh s3 W3 H3 x3 ok3 h3 => by
        obtain ⟨d, e, _⟩ := Post.opt h3 ok3
        rw [e] at h3
        exact ⟨W3, s3, y, d, ok3, ru.mono (x2.le.trans x3.le), e, fun W' H' v e o r => h3 W' H' e o v r⟩⟩⟩⟩
/-! ### argument lists, displays -/
theorem star_no {x : Expr} {xs : List Expr} {env : Env} (h : noStar x = true) : starEach (x :: xs) env = (false, eval x env) :: starEach xs env := by
  cases x <;> first | rfl | cases h
theorem star_all {pos : Pos} {env : Env} : ∀ {xs : List Expr}, xs.all noStar = true → (backTo pos (starEach xs env)).any (·.1) = false
  | [], _ => rfl
  | x :: xs, h => by
    obtain ⟨h1, h2⟩ := ba (show (noStar x && xs.all noStar) = true by simpa using h)
    rw [star_no h1]
    show (false || (backTo pos (starEach xs env)).any (·.1)) = false
    rw [star_all h2]; rfl
theorem sn_nil : PA X [] (rdEs X.K g cs lv Wx .nil) := PA.of pa_nil fun σ H Q ⟨W, s, r, ok, en, h⟩ => Post.now h ok [] rfl
theorem sn_cons {a : E} {es : Es} {x : Expr} {xs : List Expr} (hs : noStar x = true) (ha : PE X x (rdE X.K g cs lv Wx a)) (hes : PA X xs (rdEs X.K g cs lv Wx es)) : PA X (x :: xs) (rdEs X.K g cs lv Wx (.cons a es)) :=
  PA.of (pa_cons ha hes (star_no hs)) fun σ H Q ⟨W, s, r, ok, en, h⟩ => ⟨W, s, r, ok, en, (Post.bnd h).mono fun y s1 W1 H1 x1 ok1 h1 u ru =>
    ⟨W1, s1, r, ok1, en.ext x1, (Post.bnd h1).mono fun ys s2 W2 H2 x2 ok2 h2 us rus => Post.now h2 ok2 (u :: us) (.cons (ru.mono x2.le) rus)⟩⟩
theorem sn_tup {es : Es} {xs : List Expr} {k : Nat} {pos : Pos} (h : PA X xs (rdEs X.K g cs lv Wx es)) : PE X (.Tuple xs k pos) (rdE X.K g cs lv Wx (.tup es)) :=
  PE.of (pe_tup h) fun σ H Q ⟨W, s, r, ok, en, h⟩ => ⟨W, s, r, ok, en, (Post.bnd h).mono fun ds s1 W1 H1 x1 ok1 h1 vs rv => by
    split at h1
    · rename_i hb
      exact ⟨by rw [rv.length]; exact small hb, fun p hp => ans_tup ok1 rv hp h1⟩
    · exact h1.elim⟩
theorem sn_lst {es : Es} {xs : List Expr} {pos : Pos} (h : PA X xs (rdEs X.K g cs lv Wx es)) : PE X (.List xs pos) (rdE X.K g cs lv Wx (.lst es)) :=
  PE.of (pe_lst h) fun σ H Q ⟨W, s, r, ok, en, h⟩ => ⟨W, s, r, ok, en, (Post.bnd h).mono fun ds s1 W1 H1 x1 ok1 h1 vs rv => by
    split at h1
    · rename_i hb
      exact ⟨by rw [rv.length]; exact small hb, fun p hp => ans_lst ok1 rv hp h1⟩
    · exact h1.elim⟩
theorem sn_neg {a : E} {x : Expr} {pos : Pos} (ha : PE X x (rdE X.K g cs lv Wx a)) : PE X (.UnaryOp .USub x pos) (rdE X.K g cs lv Wx (.neg a)) :=
  PE.of (pe_un un_neg ha) fun σ H Q ⟨W, s, r, ok, en, h⟩ => ⟨W, s, r, ok, en, (Post.bnd h).mono fun y s1 W1 H1 x1 ok1 h1 u ru => by
    cases y with
    | int k => cases ru; exact ⟨k, rfl, Post.now h1 ok1 _ rfl⟩
    | _ => exact h1.elim⟩
/-! ### not, and, or, a if t else b; chains -/
theorem sn_nt {a : E} {x : Expr} {pos : Pos} (ha : PE X x (rdE X.K g cs lv Wx a)) : PE X (.UnaryOp .Not x pos) (rdE X.K g cs lv Wx (.nt a)) :=
  PE.of (pe_not ha) fun σ H Q ⟨W, s, r, ok, en, h⟩ => ⟨W, s, r, ok, en, (Post.bnd h).mono fun y s1 W1 H1 x1 ok1 h1 u ru => by
    cases y with
    | bl k => cases ru; exact ⟨k, rfl, Post.now h1 ok1 _ rfl⟩
    | _ => exact h1.elim⟩
theorem snT_nt {a : E} {x : Expr} {pos : Pos} (ha : PT X x (rdT X.K g cs lv Wx a)) : PT X (.UnaryOp .Not x pos) (rdT X.K g cs lv Wx (.nt a)) :=
  PT.of (pt_not ha) fun σ H Q ⟨W, s, r, ok, en, h⟩ => ⟨W, s, r, ok, en, (Post.bnd h).mono fun y s1 W1 H1 x1 ok1 h1 => by
    cases y with
    | bl k =>
      obtain ⟨b, e, q⟩ := Post.now h1 ok1
      cases e
      exact ⟨k, rfl, q⟩
    | _ => exact h1.elim⟩
theorem plainT_ok {x : Expr} (hp : plainT x = true) (env : Env) (whole : Sem Value) : PySem.isTrue x env whole = (do
    let v ← whole
    standAt x.pos
    holding [v] (truthy v)) := by
  cases x with
  | UnaryOp op o p => cases op <;> first | rfl | cases hp
  | BoolOp => cases hp
  | IfExp => cases hp
  | Compare => cases hp
  | _ => rfl
theorem pt_from {a : E} {x : Expr} (hp : plainT x = true) (ha : PE X x (rdE X.K g cs lv Wx a)) : PT X x (rdT X.K g cs lv Wx a) :=
  PT.of (pt_val ha fun whole => plainT_ok hp X.env whole) fun σ H Q ⟨W, s, r, ok, en, h⟩ => ⟨W, s, r, ok, en, h.mono fun d s1 W1 H1 x1 ok1 h1 v rv => by
    obtain ⟨b, e, q⟩ := h1
    subst e; cases rv
    exact ⟨b, rfl, q⟩⟩
end
end Tw
end
section
/-! Part E: chains, and, or, if; isinstance; built-ins. -/
namespace Tw
open PySem PySem.Spec PyProof.Rows L2
section
variable {X : Cx} {c : Cc} {t : Tn} {g : Ga} {cs : Cs} {Wx : WX} {lv : Nat}
theorem Ans.from {W W1 : Wd} {s : S} {H H1 : Hp} {d : D} {Q : VK} (h : Ans X.K g W s H d Q) (x : Ext W H W1 H1) : Ans X.K g W1 s H1 d Q := fun W' H' v y => h W' H' v (x.trans y)
/-- an expression runs: what is known behind it -/
structure Aft (X : Cx) (g : Ga) (pins : List (Addr × Obj)) (σ : L2.St) (r : Rho) (W : Wd) (H : Hp) (d : D) (s' : S) (v : V) (W1 : Wd) (H1 : Hp) (vv : Value) (t1 : Shared) : Prop where
  inv : Inv X pins σ H1 t1
  rel : RelV v vv
  ext : Ext W H W1 H1
  ok : Ok X.K g W1 s' H1
  env : EnvR X.K g W1 H1 r σ
  rep : Rep X.K g W1 d v
theorem PE.go {a : E} {x : Expr} (ha : PE X x (rdE X.K g cs lv Wx a)) {pins : List (Addr × Obj)} {s0 : Shared} {σ : L2.St} {H : Hp} {W : Wd} {s : S} {r : Rho} {k : D → S → Wd → Hp → Prop} {Q : Value → Shared → Prop} (I : Inv X pins σ H s0) (ok : Ok X.K g W s H) (en : EnvR X.K g W H r σ)
    (h : Post X.K g W H (evE cs r a lv s) k (fun c dd H' => Wx c dd σ H')) (q : ∀ d s' v W1 H1 vv t1, Aft X g pins σ r W H d s' v W1 H1 vv t1 → k d s' W1 H1 → Q vv t1) : wpAny (model X.prog X.w) X.A (eval x X.env) Q X.xe s0 := by
  refine thn (ha.run pins s0 σ H (fun v H1 => ∃ W1 s' d, Ext W H W1 H1 ∧ Ok X.K g W1 s' H1 ∧ Rep X.K g W1 d v ∧ k d s' W1 H1) I ⟨W, s, r, ok, en, h.mono fun d s' W1 H1 x1 ok1 h1 v rv => ⟨W1, s', d, x1, ok1, rv, h1⟩⟩) fun vv t1 ⟨v, H1, I1, rl, W1, s', d, x1, ok1, rv, h1⟩ => ?_
  exact q d s' v W1 H1 vv t1 ⟨I1, rl, x1, ok1, en.ext x1, rv⟩ h1
/-- what behind a comparison is known: its truth, the worlds -/
theorem cmp_run (hr : Room lv X.A) {op : Co} {pins : List (Addr × Obj)} {s0 : Shared} {σ : L2.St} {H : Hp} {W : Wd} {s : S} {x y : D} {v u : V} {vv uu : Value} {b : Bool} {Q : Value → Shared → Prop} (I : Inv X pins σ H s0) (ok : Ok X.K g W s H) (rx : Rep X.K g W x v) (ry : Rep X.K g W y u) (rv : RelV v vv) (ru : RelV u uu)
    (h : cmpD op x y = some b) (q : ∀ s1 W1 H1, Inv X pins σ H1 s1 → Ext W H W1 H1 → Ok X.K g W1 s H1 → Q (.bool b) s1) : wpAny (model X.prog X.w) X.A (compareOp (coOf op) vv uu) Q X.xe s0 := by
  refine thn (op_cmpD (g := g) hr op pins s0 σ H v u vv uu (fun z H1 => z = .bl b ∧ ∃ W1, Ext W H W1 H1 ∧ Ok X.K g W1 s H1) I rv ru ⟨W, s, x, y, .bl b, ok, rx, ry, by show Option.map D.bl (cmpD op x y) = _; rw [h]; rfl, fun W' H' z e o r => ⟨r, W', e, o⟩⟩) fun z s1 ⟨z', H1, I1, rz, ez, W1, e, o⟩ => ?_
  subst ez
  cases rz
  exact q s1 W1 H1 I1 e o
theorem sn_ch2 (hr : Room lv X.A) {op op' : Co} {a b d : E} {x y z : Expr} {pos : Pos} (hm : lastMarks [coOf op, coOf op'] [y, z] = false) (ha : PE X x (rdE X.K g cs lv Wx a)) (hb : PE X y (rdE X.K g cs lv Wx b)) (hd : PE X z (rdE X.K g cs lv Wx d)) :
    PE X (.Compare x [coOf op, coOf op'] [y, z] pos) (rdE X.K g cs lv Wx (.ch2 op op' a b d)) := by
  refine ⟨fun pins s0 σ H Q I ⟨W, s, r, ok, en, h⟩ => ?_⟩
  refine Compare_chain (PE.go ha I ok en (Post.bnd h) fun p s1 v W1 H1 vv t1 A1 h1 => chain_link (PE.go hb A1.inv A1.ok A1.env (Post.bnd h1) fun p2 s2 u W2 H2 uu t2 A2 h2 => ?_)) hm
  have rp := A1.rep.mono A2.ext.le
  split at h2
  · rename_i hc
    refine cmp_run hr A2.inv A2.ok rp A2.rep A1.rel A2.rel hc fun t3 W3 H3 I3 x3 ok3 => wpAny_truthy_bool (ite_tt (chain_last ?_))
    refine PE.go hd I3 ok3 (A2.env.ext x3) (Post.bnd (Post.from h2 x3)) fun p3 s3 w W4 H4 ww t4 A4 h4 => ?_
    obtain ⟨dd, e, q⟩ := Post.opt h4 A4.ok
    obtain ⟨b', hb', eb⟩ := opt_map e
    subst eb
    rw [e] at h4
    exact cmp_run hr A4.inv A4.ok (A2.rep.mono (x3.le.trans A4.ext.le)) A4.rep A2.rel A4.rel hb' fun t5 W5 H5 I5 x5 ok5 => ⟨.bl b', H5, I5, rfl, h4 W5 H5 x5 ok5 _ rfl⟩
  · rename_i hc
    exact cmp_run hr A2.inv A2.ok rp A2.rep A1.rel A2.rel hc fun t3 W3 H3 I3 x3 ok3 => wpAny_truthy_bool (ite_ff ⟨.bl false, H3, I3, rfl, h2 W3 H3 x3 ok3 _ rfl⟩)
  · exact h2.elim
/-- a test's last word -/
theorem tst {pins : List (Addr × Obj)} {σ : L2.St} {H : Hp} {s0 : Shared} {Q : Bool → Hp → Prop} {b : Bool} (I : Inv X pins σ H s0) (q : Q b H) : wpAny (model X.prog X.w) X.A (truthy (.bool b)) (TP X pins σ Q) X.xe s0 := wpAny_truthy_bool ⟨H, I, q⟩
theorem bl_of {b : Bool} {Q : Bool → Prop} (h : ∃ b', D.bl b = D.bl b' ∧ Q b') : Q b := by
  obtain ⟨b', e, q⟩ := h
  cases e; exact q
theorem snT_cmp (hr : Room lv X.A) {op : Co} {a b : E} {x y : Expr} {pos : Pos} (hm : behindInMarks (coOf op) y = false) (ha : PE X x (rdE X.K g cs lv Wx a)) (hb : PE X y (rdE X.K g cs lv Wx b)) : PT X (.Compare x [coOf op] [y] pos) (rdT X.K g cs lv Wx (.cmp op a b)) := by
  refine ⟨fun pins s0 σ H Q I ⟨W, s, r, ok, en, h⟩ => ?_⟩
  refine wpAny_isTrue_Compare1 (PE.go ha I ok en (Post.bnd h) fun p s1 v W1 H1 vv t1 A1 h1 => PE.go hb A1.inv A1.ok A1.env (Post.bnd h1) fun p2 s2 u W2 H2 uu t2 A2 h2 => ?_) hm
  obtain ⟨dd, e, q⟩ := Post.opt h2 A2.ok
  obtain ⟨b', hb', eb⟩ := opt_map e
  subst eb
  rw [e] at h2
  exact cmp_run hr A2.inv A2.ok (A1.rep.mono A2.ext.le) A2.rep A1.rel A2.rel hb' fun t5 W5 H5 I5 x5 ok5 => tst I5 (bl_of (Q := fun b => Q b H5) (h2 W5 H5 x5 ok5))
theorem snT_ch2 (hr : Room lv X.A) {op op' : Co} {a b d : E} {x y z : Expr} {pos : Pos} (hm : lastMarks [coOf op, coOf op'] [y, z] = false) (ha : PE X x (rdE X.K g cs lv Wx a)) (hb : PE X y (rdE X.K g cs lv Wx b)) (hd : PE X z (rdE X.K g cs lv Wx d)) :
    PT X (.Compare x [coOf op, coOf op'] [y, z] pos) (rdT X.K g cs lv Wx (.ch2 op op' a b d)) := by
  refine ⟨fun pins s0 σ H Q I ⟨W, s, r, ok, en, h⟩ => ?_⟩
  refine isTrue_chain (PE.go ha I ok en (Post.bnd h) fun p s1 v W1 H1 vv t1 A1 h1 => test_link (PE.go hb A1.inv A1.ok A1.env (Post.bnd h1) fun p2 s2 u W2 H2 uu t2 A2 h2 => ?_)) hm
  have rp := A1.rep.mono A2.ext.le
  split at h2
  · rename_i hc
    refine cmp_run hr A2.inv A2.ok rp A2.rep A1.rel A2.rel hc fun t3 W3 H3 I3 x3 ok3 => wpAny_truthy_bool (ite_tt (test_last ?_))
    refine PE.go hd I3 ok3 (A2.env.ext x3) (Post.bnd (Post.from h2 x3)) fun p3 s3 w W4 H4 ww t4 A4 h4 => ?_
    obtain ⟨dd, e, q⟩ := Post.opt h4 A4.ok
    obtain ⟨b', hb', eb⟩ := opt_map e
    subst eb
    rw [e] at h4
    exact cmp_run hr A4.inv A4.ok (A2.rep.mono (x3.le.trans A4.ext.le)) A4.rep A2.rel A4.rel hb' fun t5 W5 H5 I5 x5 ok5 => tst I5 (bl_of (Q := fun b => Q b H5) (h4 W5 H5 x5 ok5))
  · rename_i hc
    exact cmp_run hr A2.inv A2.ok rp A2.rep A1.rel A2.rel hc fun t3 W3 H3 I3 x3 ok3 => wpAny_truthy_bool (ite_ff ⟨H3, I3, bl_of (Q := fun b => Q b H3) (h2 W3 H3 x3 ok3)⟩)
  · exact h2.elim
theorem snT_ch3 (hr : Room lv X.A) {op op' op'' : Co} {a b d e : E} {x y z w : Expr} {pos : Pos} (hm : lastMarks [coOf op, coOf op', coOf op''] [y, z, w] = false) (ha : PE X x (rdE X.K g cs lv Wx a)) (hb : PE X y (rdE X.K g cs lv Wx b)) (hd : PE X z (rdE X.K g cs lv Wx d)) (he : PE X w (rdE X.K g cs lv Wx e)) :
    PT X (.Compare x [coOf op, coOf op', coOf op''] [y, z, w] pos) (rdT X.K g cs lv Wx (.ch3 op op' op'' a b d e)) := by
  refine ⟨fun pins s0 σ H Q I ⟨W, s, r, ok, en, h⟩ => ?_⟩
  refine isTrue_chain (PE.go ha I ok en (Post.bnd h) fun p s1 v W1 H1 vv t1 A1 h1 => test_link (PE.go hb A1.inv A1.ok A1.env (Post.bnd h1) fun p2 s2 u W2 H2 uu t2 A2 h2 => ?_)) hm
  have rp := A1.rep.mono A2.ext.le
  split at h2
  · rename_i hc
    refine cmp_run hr A2.inv A2.ok rp A2.rep A1.rel A2.rel hc fun t3 W3 H3 I3 x3 ok3 => wpAny_truthy_bool (ite_tt (test_link ?_))
    refine PE.go hd I3 ok3 (A2.env.ext x3) (Post.bnd (Post.from h2 x3)) fun p3 s3 w W4 H4 ww t4 A4 h4 => ?_
    have rp2 := A2.rep.mono (x3.le.trans A4.ext.le)
    split at h4
    · rename_i hc2
      refine cmp_run hr A4.inv A4.ok rp2 A4.rep A2.rel A4.rel hc2 fun t5 W5 H5 I5 x5 ok5 => wpAny_truthy_bool (ite_tt (test_last ?_))
      refine PE.go he I5 ok5 (A4.env.ext x5) (Post.bnd (Post.from h4 x5)) fun p6 s6 w6 W6 H6 ww6 t6 A6 h6 => ?_
      obtain ⟨dd, e, q⟩ := Post.opt h6 A6.ok
      obtain ⟨b', hb', eb⟩ := opt_map e
      subst eb
      rw [e] at h6
      exact cmp_run hr A6.inv A6.ok (A4.rep.mono (x5.le.trans A6.ext.le)) A6.rep A4.rel A6.rel hb' fun t7 W7 H7 I7 x7 ok7 => tst I7 (bl_of (Q := fun b => Q b H7) (h6 W7 H7 x7 ok7))
    · rename_i hc2
      exact cmp_run hr A4.inv A4.ok rp2 A4.rep A2.rel A4.rel hc2 fun t5 W5 H5 I5 x5 ok5 => wpAny_truthy_bool (ite_ff ⟨H5, I5, bl_of (Q := fun b => Q b H5) (h4 W5 H5 x5 ok5)⟩)
    · exact h4.elim
  · rename_i hc
    exact cmp_run hr A2.inv A2.ok rp A2.rep A1.rel A2.rel hc fun t3 W3 H3 I3 x3 ok3 => wpAny_truthy_bool (ite_ff ⟨H3, I3, bl_of (Q := fun b => Q b H3) (h2 W3 H3 x3 ok3)⟩)
  · exact h2.elim
/-! ### and, or -/
theorem bool_end {W : Wd} {H : Hp} {o : Out D} {σ : L2.St} {Q : VK} (h : Post X.K g W H (bnd o fun y s2 => opt ((chkB y).map .bl) s2) (fun d _ W' H' => ∀ v, Rep X.K g W' d v → Q v H') (fun c dd H' => Wx c dd σ H')) :
    Post X.K g W H o (fun d _ W' H' => ∀ v, Rep X.K g W' d v → Q v H') (fun c dd H' => Wx c dd σ H') := (Post.bnd h).mono fun y s2 W2 H2 x2 ok2 h2 v rv => by
  obtain ⟨d, e, q⟩ := Post.opt h2 ok2
  obtain ⟨b, hb, eb⟩ := opt_map e
  cases y <;> cases hb
  subst eb
  exact q v rv
theorem bool_endT {W : Wd} {H : Hp} {o : Out D} {σ : L2.St} {Q : Bool → Hp → Prop} (h : Post X.K g W H (bnd o fun y s2 => opt ((chkB y).map D.bl) s2) (fun d _ W' H' => ∃ b, d = D.bl b ∧ Q b H') (fun c dd H' => Wx c dd σ H')) :
    Post X.K g W H o (fun d _ W' H' => ∃ b, d = D.bl b ∧ Q b H') (fun c dd H' => Wx c dd σ H') := (Post.bnd h).mono fun y s2 W2 H2 x2 ok2 h2 => by
  obtain ⟨d, e, q⟩ := Post.opt h2 ok2
  obtain ⟨b, hb, eb⟩ := opt_map e
  cases y <;> cases hb
  subst eb
  exact q
theorem sn_an {a b : E} {x y : Expr} {r : List Expr} {pos : Pos} (ha : PE X x (rdE X.K g cs lv Wx a)) (hb : PE X (.BoolOp .And (y :: r) pos) (rdE X.K g cs lv Wx b)) : PE X (.BoolOp .And (x :: y :: r) pos) (rdE X.K g cs lv Wx (.an a b)) :=
  PE.of (pe_and ha hb) fun σ H Q ⟨W, s, r, ok, en, h⟩ => ⟨W, s, r, ok, en, (Post.bnd h).mono fun y s1 W1 H1 x1 ok1 h1 u ru => by
    cases y with
    | bl k =>
      cases ru
      refine ⟨k, rfl, ?_⟩
      cases k with
      | true => exact iteT ⟨W1, s1, r, ok1, en.ext x1, bool_end h1⟩
      | false => exact iteF (Post.now h1 ok1 _ rfl)
    | _ => exact h1.elim⟩
theorem sn_or {a b : E} {x y : Expr} {r : List Expr} {pos : Pos} (ha : PE X x (rdE X.K g cs lv Wx a)) (hb : PE X (.BoolOp .Or (y :: r) pos) (rdE X.K g cs lv Wx b)) : PE X (.BoolOp .Or (x :: y :: r) pos) (rdE X.K g cs lv Wx (.or a b)) :=
  PE.of (pe_or ha hb) fun σ H Q ⟨W, s, r, ok, en, h⟩ => ⟨W, s, r, ok, en, (Post.bnd h).mono fun y s1 W1 H1 x1 ok1 h1 u ru => by
    cases y with
    | bl k =>
      cases ru
      refine ⟨k, rfl, ?_⟩
      cases k with
      | true => exact iteT (Post.now h1 ok1 _ rfl)
      | false => exact iteF ⟨W1, s1, r, ok1, en.ext x1, bool_end h1⟩
    | _ => exact h1.elim⟩
theorem pw_of {op : BoolOp} {es : List Expr} {pos : Pos} {t : TT} (h : PT X (.BoolOp op es pos) t) : PW X (.BoolOp op es pos) t := ⟨fun whole pins s σ H Q I q => h.run pins s σ H Q I q⟩
theorem snT_an {a b : E} {x y : Expr} {r : List Expr} {pos : Pos} (ha : PT X x (rdT X.K g cs lv Wx a)) (hb : PW X (.BoolOp .And (y :: r) pos) (rdT X.K g cs lv Wx b)) : PT X (.BoolOp .And (x :: y :: r) pos) (rdT X.K g cs lv Wx (.an a b)) :=
  PT.of (PW.pt (pw_and ha hb)) fun σ H Q ⟨W, s, r, ok, en, h⟩ => ⟨W, s, r, ok, en, (Post.bnd h).mono fun y s1 W1 H1 x1 ok1 h1 => by
    cases y with
    | bl k =>
      refine ⟨k, rfl, ?_⟩
      cases k with
      | true => exact iteT ⟨W1, s1, r, ok1, en.ext x1, bool_endT h1⟩
      | false => exact iteF (bl_of (Q := fun b => Q b H1) (Post.now h1 ok1))
    | _ => exact h1.elim⟩
theorem snT_or {a b : E} {x y : Expr} {r : List Expr} {pos : Pos} (ha : PT X x (rdT X.K g cs lv Wx a)) (hb : PW X (.BoolOp .Or (y :: r) pos) (rdT X.K g cs lv Wx b)) : PT X (.BoolOp .Or (x :: y :: r) pos) (rdT X.K g cs lv Wx (.or a b)) :=
  PT.of (PW.pt (pw_or ha hb)) fun σ H Q ⟨W, s, r, ok, en, h⟩ => ⟨W, s, r, ok, en, (Post.bnd h).mono fun y s1 W1 H1 x1 ok1 h1 => by
    cases y with
    | bl k =>
      refine ⟨k, rfl, ?_⟩
      cases k with
      | true => exact iteT (bl_of (Q := fun b => Q b H1) (Post.now h1 ok1))
      | false => exact iteF ⟨W1, s1, r, ok1, en.ext x1, bool_endT h1⟩
    | _ => exact h1.elim⟩
theorem sn_ite {q a b : E} {x y z : Expr} {pos : Pos} (hq : PT X x (rdT X.K g cs lv Wx q)) (ha : PE X y (rdE X.K g cs lv Wx a)) (hb : PE X z (rdE X.K g cs lv Wx b)) : PE X (.IfExp x y z pos) (rdE X.K g cs lv Wx (.ite q a b)) :=
  PE.of (pe_ifExp hq ha hb) fun σ H Q ⟨W, s, r, ok, en, h⟩ => ⟨W, s, r, ok, en, (Post.bnd h).mono fun y s1 W1 H1 x1 ok1 h1 => by
    cases y with
    | bl k =>
      refine ⟨k, rfl, ?_⟩
      cases k with
      | true => exact iteT ⟨W1, s1, r, ok1, en.ext x1, h1⟩
      | false => exact iteF ⟨W1, s1, r, ok1, en.ext x1, h1⟩
    | _ => exact h1.elim⟩
end
end Tw
end
section
/-! Part F: isinstance, built-ins but the sorts, calls. -/
namespace Tw
open PySem PySem.Spec PyProof.Rows L2
section
variable {X : Cx} {c : Cc} {t : Tn} {g : Ga} {cs : Cs} {Wx : WX} {lv : Nat}
/-! ### isinstance -/
theorem tyX_D {W : Wd} {s : S} {H : Hp} {d : D} {v : V} {ty : Ty} (ok : Ok X.K g W s H) (r : Rep X.K g W d v) (h : tyD d s = some ty) : TyX X.K H v (.type (tyNm ty)) := by
  cases d with
  | non => cases r; cases h; exact .base .non
  | bl b => cases r; cases h; exact .base (.bl b)
  | int i => cases r; cases h; exact .base (.int i)
  | str x => cases r; cases h; exact .base (.str x)
  | tup ds =>
    cases h
    obtain ⟨a, vs, rfl, hp, _⟩ := r
    rcases sqT_H ok hp with (e | ⟨o, e⟩) | ⟨o, its, n, e, e2, _⟩
    · exact .base (.tup e)
    · exact .fTuple e
    · exact .kTuple e e2
  | lst ds =>
    cases h
    obtain ⟨a, vs, rfl, hp, _⟩ := r
    rcases sqL_H ok hp with (e | ⟨o, e⟩) | ⟨o, its, n, e, e2, _⟩
    · exact .base (.lst e)
    · exact .base (.frz e)
    · exact .kList e e2
  | box k =>
    obtain ⟨a, rfl, hb⟩ := r
    have h : (match s[k]? with
      | some (.lst _) => some Ty.list
      | _ => none) = some ty := h
    split at h
    · rename_i hk
      cases h
      obtain ⟨vs, h1, _⟩ := ok.box _ a _ hb hk
      exact .base (.lst h1)
    · cases h
  | fn f => cases h
  | xc k => cases h
theorem kit_D (a b : Ty) (h : b ≠ .non) : kitB (tyNm a) (tyNm b) = some (subTy a b) := by
  cases b <;> first | exact (h rfl).elim | (cases a <;> decide +kernel)
theorem boot_ty (b : Ty) (h : b ≠ .non) : bootBuiltins ((tyNm b : String) : Str) = some (.type (tyNm b)) := by
  cases b <;> first | exact (h rfl).elim | decide +kernel
theorem bltB_ok (go : GOk X.prog X.w X.K X.mg X.base g t cs lv) (xo : XB X c) {x : Str} {n : String} (h : bltB t c.sc x n = true) : x = (n : Str) ∧ Gl X x ∧ X.mg x = none := by
  unfold bltB at h
  obtain ⟨h, h3⟩ := ba h
  obtain ⟨h1, h2⟩ := ba h
  exact ⟨of_decide_eq_true h1, glB_ok xo h2, go.blt x (of_decide_eq_true h3)⟩
def rTys (ts : List Ty) : TA := fun _ H Q => Q (ts.map fun y => V.ty (tyNm y)) H
theorem tysB_ok (go : GOk X.prog X.w X.K X.mg X.base g t cs lv) (xo : XOk g X c Wx lv) : ∀ {ts : List Ty} {es : List Expr}, tysB t c.sc ts es = true → PA X es (rTys ts) ∧ ∀ y ∈ ts, y ≠ Ty.non
  | [], [], _ => ⟨pa_nil, fun y h => nomatch h⟩
  | y :: ys, .Name x p :: es, h => by
    unfold tysB at h
    obtain ⟨h, h4⟩ := ba h
    obtain ⟨h, h3⟩ := ba h
    obtain ⟨h1, h2⟩ := ba h
    have hy : y ≠ .non := of_decide_eq_true h2
    obtain ⟨rfl, hg, hm⟩ := bltB_ok go xo.toXB h1
    obtain ⟨ih1, ih2⟩ := tysB_ok go xo h4
    refine ⟨PA.of (pa_cons (pe_bltn (v := .ty (tyNm y)) hg hm (boot_ty y hy) rfl (nmOk_ok h3).2.2 (nmOk_ok h3).1) ih1 rfl) fun σ H Q q => q, fun z hz => ?_⟩
    cases hz with
    | head => exact hy
    | tail _ hz => exact ih2 z hz
theorem kit_any {K : PySem.W.Frag} (a : Ty) : ∀ {ts : List Ty}, (∀ y ∈ ts, y ≠ Ty.non) → PySem.W.kitAny K (.type (tyNm a)) (ts.map fun y => Value.type (tyNm y)) = some (ts.any fun y => subTy a y)
  | [], _ => rfl
  | y :: ys, h => by
    have z := kit_ty (K := K) (kit_D a y (h y (.head _)))
    show (match PySem.W.kitOne K (.type (tyNm a)) (.type (tyNm y)) with
      | some true => some true
      | some false => PySem.W.kitAny K (.type (tyNm a)) (ys.map fun y => Value.type (tyNm y))
      | none => none) = some (subTy a y || ys.any fun y => subTy a y)
    rw [z]
    cases subTy a y with
    | true => rfl
    | false =>
      show PySem.W.kitAny K (.type (tyNm a)) (ys.map fun y => Value.type (tyNm y)) = some (false || ys.any fun y => subTy a y)
      rw [kit_any a fun z hz => h z (.tail _ hz), Bool.false_or]
theorem clsV_tys : ∀ ts : List Ty, Paired ClsV (ts.map fun y => V.ty (tyNm y)) (ts.map fun y => Value.type (tyNm y))
  | [] => .nil
  | y :: ys => .cons (.ty _) (clsV_tys ys)
theorem sn_isi (go : GOk X.prog X.w X.K X.mg X.base g t cs lv) (xo : XOk g X c Wx lv) {ts : List Ty} {a : E} {e k : Expr} {x : Str} {p pos : Pos} (hx : bltB t c.sc x "isinstance" = true) (s1 : noStar e = true) (s2 : noStar k = true) (ha : PE X e (rdE X.K g cs lv Wx a)) (hl : ts.length ≤ big)
    (hk : isiB t c.sc ts k = true) : PE X (.Call (.Name x p) [e, k] [] pos) (rdE X.K g cs lv Wx (.isi ts a)) := by
  obtain ⟨rfl, hg, hm⟩ := bltB_ok go xo.toXB hx
  have hpl : (backTo pos (starEach [k] X.env)).any (·.1) = false := star_all (by simp [s2])
  unfold isiB at hk
  split at hk
  · rename_i y z pz
    obtain ⟨hk, h3⟩ := ba hk
    obtain ⟨h1, h2⟩ := ba hk
    have hy : y ≠ .non := of_decide_eq_true h2
    obtain ⟨rfl, hg1, hm1⟩ := bltB_ok go xo.toXB h1
    refine PE.of (pe_callB call_isi hg hm PyProof.Rows.boot_isinstance (pa_cons ha (pa_cons (pe_bltn (v := .ty (tyNm y)) hg1 hm1 (boot_ty y hy) rfl (nmOk_ok h3).2.2 (nmOk_ok h3).1) pa_nil rfl) (star_no s1)) (by decide) (by decide) (star_no s1) hpl) fun σ H Q ⟨W, s, r, ok, en, h⟩ => ?_
    refine ⟨W, s, r, ok, en, (Post.bnd h).mono fun d s1 W1 H1 x1 ok1 h1 v rv => ?_⟩
    obtain ⟨dd, e, q⟩ := Post.opt h1 ok1
    obtain ⟨ty, e1, e2⟩ := opt_map e
    subst e2
    exact ⟨v, .ty (tyNm y), _, _, _, rfl, .ty _, tyX_D ok1 rv e1, kit_ty (kit_D ty y hy), by
      have z := q (.bl ([y].any fun u => subTy ty u)) rfl
      simpa using z⟩
  · rename_i es ne tp _
    obtain ⟨ih1, ih2⟩ := tysB_ok go xo hk
    refine PE.of (pe_callB call_isiT hg hm PyProof.Rows.boot_isinstance (pa_cons ha (pa_cons (pe_tup ih1) pa_nil rfl) (star_no s1)) (by decide) (by decide) (star_no s1) hpl) fun σ H Q ⟨W, s, r, ok, en, h⟩ => ?_
    refine ⟨W, s, r, ok, en, (Post.bnd h).mono fun d s1 W1 H1 x1 ok1 h1 v rv => ?_⟩
    obtain ⟨dd, e, _⟩ := Post.opt h1 ok1
    obtain ⟨ty, e1, e2⟩ := opt_map e
    subst e2
    rw [e] at h1
    refine ⟨by rw [List.length_map]; exact small hl, fun p hp => ?_⟩
    have x2 := Ext.alloc0 W1 (o := .tup (ts.map fun y => V.ty (tyNm y))) hp
    have ok2 := ok1.alloc0 (o := .tup (ts.map fun y => V.ty (tyNm y))) hp
    exact ⟨v, p, _, _, _, _, rfl, upd_same, clsV_tys ts, tyX_D ok2 rv e1, kit_any ty ih2, h1 _ _ x2 ok2 _ rfl⟩
  · cases hk
/-! ### built-ins -/
theorem RepL.bls {W : Wd} : ∀ {ds : List D} {vs : List V} {bs : List Bool}, RepL X.K g W ds vs → blsD ds = some bs → vs = bs.map V.bl
  | [], _, _, h, e => by cases h; unfold blsD at e; cases e; rfl
  | d :: ds, _, bs, ⟨v, r, ev, h, hr⟩, e => by
    subst ev
    unfold blsD at e
    cases d <;> first | cases e | skip
    obtain ⟨cs, e1, e2⟩ := opt_map e
    subst e2
    cases h
    rw [RepL.bls hr e1]; rfl
theorem RepL.nums {W : Wd} : ∀ {ds : List D} {vs : List V} {is : List Int}, RepL X.K g W ds vs → intsD ds = some is → vs = is.map V.int
  | [], _, _, h, e => by cases h; unfold intsD at e; cases e; rfl
  | d :: ds, _, bs, ⟨v, r, ev, h, hr⟩, e => by
    subst ev
    unfold intsD at e
    cases d <;> first | cases e | skip
    obtain ⟨cs, e1, e2⟩ := opt_map e
    subst e2
    cases h
    rw [RepL.nums hr e1]; rfl
theorem minL_le : ∀ (l : List Int) (m : Int), (minL m l = m ∨ minL m l ∈ l) ∧ minL m l ≤ m ∧ ∀ y ∈ l, minL m l ≤ y
  | [], m => ⟨.inl rfl, Int.le_refl _, fun _ h => nomatch h⟩
  | x :: l, m => by
    have z := minL_le l (if x < m then x else m)
    have e : minL m (x :: l) = minL (if x < m then x else m) l := rfl
    rw [e]
    obtain ⟨z1, z2, z3⟩ := z
    refine ⟨?_, ?_, fun y hy => ?_⟩
    · rcases z1 with q | q
      · rw [q]
        split
        · exact .inr (.head _)
        · exact .inl rfl
      · exact .inr (.tail _ q)
    · refine Int.le_trans z2 ?_
      split <;> omega
    · cases hy with
      | head =>
        refine Int.le_trans z2 ?_
        split <;> omega
      | tail _ hy => exact z3 y hy
theorem maxL_le : ∀ (l : List Int) (m : Int), (maxL m l = m ∨ maxL m l ∈ l) ∧ m ≤ maxL m l ∧ ∀ y ∈ l, y ≤ maxL m l
  | [], m => ⟨.inl rfl, Int.le_refl _, fun _ h => nomatch h⟩
  | x :: l, m => by
    have z := maxL_le l (if x > m then x else m)
    have e : maxL m (x :: l) = maxL (if x > m then x else m) l := rfl
    rw [e]
    obtain ⟨z1, z2, z3⟩ := z
    refine ⟨?_, ?_, fun y hy => ?_⟩
    · rcases z1 with q | q
      · rw [q]
        split
        · exact .inr (.head _)
        · exact .inl rfl
      · exact .inr (.tail _ q)
    · refine Int.le_trans ?_ z2
      split <;> omega
    · cases hy with
      | head =>
        refine Int.le_trans ?_ z2
        split <;> omega
      | tail _ hy => exact z3 y hy
def rBi (K : PySem.W.Frag) (g : Ga) (b : Bi) : List V → Hp → VK → Prop := fun vs H Q => ∃ W s ds d, Ok K g W s H ∧ RepL K g W ds vs ∧ biD b ds s = some d ∧ Ans K g W s H d Q
theorem RepL.inv1 {W : Wd} {d : D} {vs : List V} (h : RepL X.K g W [d] vs) : ∃ v, vs = [v] ∧ Rep X.K g W d v := by
  obtain ⟨v, r, e, h, hr⟩ := h
  cases hr
  exact ⟨v, e, h⟩
theorem RepL.inv2 {W : Wd} {d e : D} {vs : List V} (h : RepL X.K g W [d, e] vs) : ∃ v u, vs = [v, u] ∧ Rep X.K g W d v ∧ Rep X.K g W e u := by
  obtain ⟨v, r, e, h, hr⟩ := h
  obtain ⟨u, e2, h2⟩ := RepL.inv1 hr
  exact ⟨v, u, by rw [e, e2], h, h2⟩
/-- what is asked of the sorts -/
def SortsOk (X : Cx) (g : Ga) : Prop := CallR X (.builtin "sorted") (rBi X.K g .sorted)
theorem cr_bi (hc : X.calm = true) (hs : SortsOk X g) (b : Bi) (hb : b ≠ .sset) : ∃ f, bootBuiltins ((biNm b : String) : Str) = some f ∧ ((∃ id, f = .builtin id) ∨ ∃ T, f = .type T) ∧ CallR X f (rBi X.K g b) := by
  cases b with
  | sset => exact (hb rfl).elim
  | sorted => exact ⟨.builtin "sorted", by decide +kernel, .inl ⟨_, rfl⟩, hs⟩
  | len =>
    refine ⟨.builtin "len", by decide +kernel, .inl ⟨_, rfl⟩, fun pins s0 σ H xs us Q I r ⟨W, s, ds, d, ok, rp, hd, a⟩ => ?_⟩
    unfold biD at hd
    split at hd <;> first | contradiction | skip
    · cases hd
      obtain ⟨v, rfl, p, vs, rfl, hp, r1⟩ := rp.inv1
      exact call_len_seq pins s0 σ H _ us Q I r ⟨p, vs, rfl, .inr (sqT_H ok hp), by rw [r1.length]; exact a.now ok rfl⟩
    · cases hd
      obtain ⟨v, rfl, p, vs, rfl, hp, r1⟩ := rp.inv1
      exact call_len_seq pins s0 σ H _ us Q I r ⟨p, vs, rfl, .inl (sqL_H ok hp), by rw [r1.length]; exact a.now ok rfl⟩
    · split at hd <;> cases hd
      rename_i hb
      obtain ⟨v, rfl, rv⟩ := rp.inv1
      cases rv
      exact call_len_str pins s0 σ H _ us Q I r ⟨_, rfl, small hb, a.now ok rfl⟩
    all_goals cases hd
  | all =>
    refine ⟨.builtin "all", by decide +kernel, .inl ⟨_, rfl⟩, fun pins s0 σ H xs us Q I r ⟨W, s, ds, d, ok, rp, hd, a⟩ => ?_⟩
    unfold biD at hd
    split at hd <;> first | contradiction | skip
    · obtain ⟨bs, e1, e2⟩ := opt_map hd
      subst e2
      obtain ⟨v, rfl, p, vs, rfl, hp, r1⟩ := rp.inv1
      exact cr_all hc pins s0 σ H _ us Q I r ⟨p, bs, rfl, by rw [← r1.bls e1]; exact sqL_H ok hp, a.now ok rfl⟩
    all_goals cases hd
  | any =>
    refine ⟨.builtin "any", by decide +kernel, .inl ⟨_, rfl⟩, fun pins s0 σ H xs us Q I r ⟨W, s, ds, d, ok, rp, hd, a⟩ => ?_⟩
    unfold biD at hd
    split at hd <;> first | contradiction | skip
    · obtain ⟨bs, e1, e2⟩ := opt_map hd
      subst e2
      obtain ⟨v, rfl, p, vs, rfl, hp, r1⟩ := rp.inv1
      exact cr_any hc pins s0 σ H _ us Q I r ⟨p, bs, rfl, by rw [← r1.bls e1]; exact sqL_H ok hp, a.now ok rfl⟩
    all_goals cases hd
  | min2 =>
    refine ⟨.builtin "min", by decide +kernel, .inl ⟨_, rfl⟩, fun pins s0 σ H xs us Q I r ⟨W, s, ds, d, ok, rp, hd, a⟩ => ?_⟩
    unfold biD at hd
    split at hd <;> first | contradiction | skip
    · cases hd
      obtain ⟨v, u, rfl, r1, r2⟩ := rp.inv2
      cases r1; cases r2
      exact call_min2 hc pins s0 σ H _ us Q I r ⟨_, _, rfl, a.now ok rfl⟩
    all_goals cases hd
  | max2 =>
    refine ⟨.builtin "max", by decide +kernel, .inl ⟨_, rfl⟩, fun pins s0 σ H xs us Q I r ⟨W, s, ds, d, ok, rp, hd, a⟩ => ?_⟩
    unfold biD at hd
    split at hd <;> first | contradiction | skip
    · cases hd
      obtain ⟨v, u, rfl, r1, r2⟩ := rp.inv2
      cases r1; cases r2
      exact call_max2 hc pins s0 σ H _ us Q I r ⟨_, _, rfl, a.now ok rfl⟩
    all_goals cases hd
  | min1 =>
    refine ⟨.builtin "min", by decide +kernel, .inl ⟨_, rfl⟩, fun pins s0 σ H xs us Q I r ⟨W, s, ds, d, ok, rp, hd, a⟩ => ?_⟩
    unfold biD at hd
    split at hd <;> first | contradiction | skip
    · split at hd <;> cases hd
      rename_i i is e1
      obtain ⟨v, rfl, p, vs, rfl, hp, r1⟩ := rp.inv1
      obtain ⟨z1, z2, z3⟩ := minL_le is i
      refine cr_min hc pins s0 σ H _ us Q I r ⟨p, i :: is, rfl, by rw [← r1.nums e1]; exact sqL_H ok hp, by simp, fun m hm hy => ?_⟩
      have e : m = minL i is := by
        refine Int.le_antisymm ?_ ?_
        · rcases z1 with q | q
          · rw [q]; exact hy _ (.head _)
          · exact hy _ (.tail _ q)
        · cases hm with
          | head => exact z2
          | tail _ q => exact z3 _ q
      subst e
      exact a.now ok rfl
    all_goals cases hd
  | max1 =>
    refine ⟨.builtin "max", by decide +kernel, .inl ⟨_, rfl⟩, fun pins s0 σ H xs us Q I r ⟨W, s, ds, d, ok, rp, hd, a⟩ => ?_⟩
    unfold biD at hd
    split at hd <;> first | contradiction | skip
    · split at hd <;> cases hd
      rename_i i is e1
      obtain ⟨v, rfl, p, vs, rfl, hp, r1⟩ := rp.inv1
      obtain ⟨z1, z2, z3⟩ := maxL_le is i
      refine cr_max hc pins s0 σ H _ us Q I r ⟨p, i :: is, rfl, by rw [← r1.nums e1]; exact sqL_H ok hp, by simp, fun m hm hy => ?_⟩
      have e : m = maxL i is := by
        refine Int.le_antisymm ?_ ?_
        · cases hm with
          | head => exact z2
          | tail _ q => exact z3 _ q
        · rcases z1 with q | q
          · rw [q]; exact hy _ (.head _)
          · exact hy _ (.tail _ q)
      subst e
      exact a.now ok rfl
    all_goals cases hd
  | sum =>
    refine ⟨.builtin "sum", by decide +kernel, .inl ⟨_, rfl⟩, fun pins s0 σ H xs us Q I r ⟨W, s, ds, d, ok, rp, hd, a⟩ => ?_⟩
    unfold biD at hd
    split at hd <;> first | contradiction | skip
    · obtain ⟨bs, e1, e2⟩ := opt_map hd
      subst e2
      obtain ⟨v, rfl, p, vs, rfl, hp, r1⟩ := rp.inv1
      exact cr_sum hc pins s0 σ H _ us Q I r ⟨p, bs, rfl, by rw [← r1.nums e1]; exact sqL_H ok hp, a.now ok rfl⟩
    all_goals cases hd
  | tuple =>
    refine ⟨.type "tuple", by decide +kernel, .inr ⟨_, rfl⟩, fun pins s0 σ H xs us Q I r ⟨W, s, ds, d, ok, rp, hd, a⟩ => ?_⟩
    unfold biD at hd
    split at hd <;> first | contradiction | skip
    · cases hd
      obtain ⟨v, rfl, p, vs, rfl, hp, r1⟩ := rp.inv1
      exact call_tuple_of pins s0 σ H _ us Q I r ⟨p, vs, rfl, .inl ⟨sqL_H ok hp, fun l hl => a.tup ok r1 hl⟩⟩
    · cases hd
      obtain ⟨v, rfl, p, vs, rfl, hp, r1⟩ := rp.inv1
      exact call_tuple_of pins s0 σ H _ us Q I r ⟨p, vs, rfl, .inr ⟨sqT_H ok hp, a.now ok ⟨p, vs, rfl, hp, r1⟩⟩⟩
    all_goals cases hd
  | list =>
    refine ⟨.type "list", by decide +kernel, .inr ⟨_, rfl⟩, fun pins s0 σ H xs us Q I r ⟨W, s, ds, d, ok, rp, hd, a⟩ => ?_⟩
    unfold biD at hd
    split at hd <;> first | contradiction | skip
    · cases hd
      obtain ⟨v, rfl, p, vs, rfl, hp, r1⟩ := rp.inv1
      exact call_list_of pins s0 σ H _ us Q I r ⟨p, vs, rfl, .inl (sqL_H ok hp), fun l hl => a.lst ok r1 hl⟩
    · cases hd
      obtain ⟨v, rfl, p, vs, rfl, hp, r1⟩ := rp.inv1
      exact call_list_of pins s0 σ H _ us Q I r ⟨p, vs, rfl, .inr (sqT_H ok hp), fun l hl => a.lst ok r1 hl⟩
    all_goals cases hd
  | int =>
    refine ⟨.type "int", by decide +kernel, .inr ⟨_, rfl⟩, fun pins s0 σ H xs us Q I r ⟨W, s, ds, d, ok, rp, hd, a⟩ => ?_⟩
    unfold biD at hd
    split at hd <;> first | contradiction | skip
    · cases hd
      obtain ⟨v, rfl, rv⟩ := rp.inv1
      cases rv
      exact call_int1 pins s0 σ H _ us Q I r (.inl ⟨_, rfl, a.now ok rfl⟩)
    all_goals cases hd
theorem sn_bi (go : GOk X.prog X.w X.K X.mg X.base g t cs lv) (xo : XOk g X c Wx lv) (hs : SortsOk X g) {b : Bi} {es : Es} {xs : List Expr} {x : Str} {p pos : Pos} (hb : b ≠ .sset) (hx : bltB t c.sc x (biNm b) = true) (hst : xs.all noStar = true) (ha : PA X xs (rdEs X.K g cs lv Wx es)) (hne : xs ≠ []) :
    PE X (.Call (.Name x p) xs [] pos) (rdE X.K g cs lv Wx (.bi b es)) := by
  obtain ⟨rfl, hg, hm⟩ := bltB_ok go xo.toXB hx
  obtain ⟨f, hv, hf, hcr⟩ := cr_bi (g := g) xo.calm hs b hb
  have nm : ((biNm b : String) : Str) ≠ ("__name__" : Str) ∧ (((biNm b : String) : Str) == ("__debug__" : Str)) = false := by cases b <;> decide +kernel
  cases xs with
  | nil => exact (hne rfl).elim
  | cons e es' =>
    obtain ⟨h1, h2⟩ := ba (show (noStar e && es'.all noStar) = true by simpa using hst)
    have fin : ∀ σ H Q, rdE X.K g cs lv Wx (.bi b es) σ H Q → tCB (rBi X.K g b) (rdEs X.K g cs lv Wx es) σ H Q := fun σ H Q ⟨W, s, r, ok, en, h⟩ => ⟨W, s, r, ok, en, (Post.bnd h).mono fun ds s1 W1 H1 x1 ok1 h1 vs rv => by
      obtain ⟨dd, e, _⟩ := Post.opt h1 ok1
      rw [e] at h1
      exact ⟨W1, s1, ds, dd, ok1, rv, e, fun W' H' v x o r => h1 W' H' x o v r⟩⟩
    rcases hf with ⟨id, rfl⟩ | ⟨T, rfl⟩
    · exact PE.of (pe_callB hcr hg hm hv ha nm.1 nm.2 (star_no h1) (star_all h2)) fin
    · exact PE.of (pe_callTy hcr hg hm hv ha nm.1 nm.2 (star_no h1) (star_all h2)) fin
theorem sn_oln (go : GOk X.prog X.w X.K X.mg X.base g t cs lv) (xo : XOk g X c Wx lv) (hs : SortsOk X g) {i : Nat} {x y : Str} {p p2 pos : Pos} (hy : bltB t c.sc y "len" = true) (h : slotB c i x = true) :
    PE X (.Call (.Name y p) [.Name x p2] [] pos) (rdE X.K g cs lv Wx (.oln i)) := by
  obtain ⟨rfl, hg, hm⟩ := bltB_ok go xo.toXB hy
  obtain ⟨h1, h2, h3, h4⟩ := slotB_ok h
  obtain ⟨f, hv, hf, hcr⟩ := cr_bi (g := g) xo.calm hs .len (by decide)
  have ef : f = .builtin "len" := by
    have z : bootBuiltins ("len" : Str) = some (.builtin "len") := by decide +kernel
    rw [show ((biNm .len : String) : Str) = ("len" : Str) from rfl, z] at hv
    exact (Option.some.inj hv).symm
  subst ef
  have hc2 : CallR X (.builtin "len") (fun xs H Q => (∃ p vs, xs = [.ref p] ∧ (SqL X.K H p vs ∨ SqT X.K H p vs) ∧ Q (.int (vs.length : Nat)) H) ∨ rBi X.K g .len xs H Q) := fun pins s0 σ H xs us Q I r q => q.elim
    (fun ⟨p, vs, e, k, q⟩ => call_len_seq pins s0 σ H xs us Q I r ⟨p, vs, e, k, q⟩) fun q => hcr pins s0 σ H xs us Q I r q
  refine PE.of (pe_callB hc2 hg hm hv (pa_cons (pe_var (i := i) (by rw [xo.N]; exact h1) (by rw [xo.sc]; exact h2) h3 h4) pa_nil rfl) (by decide +kernel) (by decide +kernel) rfl rfl) fun σ H Q ⟨W, s, r, ok, en, h⟩ => ?_
  unfold evE at h
  split at h
  · rename_i xs hx
    obtain ⟨a, vs, e1, e2, rp, _, nb⟩ := en.at_ i _ hx
    exact ⟨.ref a, e1, .inl ⟨a, vs, rfl, .inl (SqL.of e2), by rw [rp.length]; exact Post.now h ok _ rfl⟩⟩
  · rename_i x' hx
    obtain ⟨v, e1, rp⟩ := en.at_ i _ hx
    obtain ⟨d, e, _⟩ := Post.opt h ok
    rw [e] at h
    exact ⟨v, e1, .inr ⟨W, s, [x'], d, ok, .one rp, e, fun W' H' v e o r => h W' H' e o v r⟩⟩
  · exact h.elim
end
end Tw
end
section
/-! Part G: enumerate of a tuple. -/
namespace Tw
open PySem PySem.Spec PyProof.Rows L2
open AutoSeq1 (wpAny_loadPart')
/-- enumerate over a tuple: what its making leaves -/
theorem enum_newT (l : Addr) (its : Array Value) (n : Nat) (dc : Option Addr) (sl : Array (Option Value)) : Meets (Builtin.«enumerate.__new__» ⟨[.type "enumerate", .ref l], []⟩) (fun _ R s =>
    s.heap.get? l = some { cls := .type "tuple", dict := dc, data := .seq its n, slots := sl } ∧ R (.ok (.ret (.ref (s.heap.push { cls := .type "tuple_iterator", data := .fields #[.ref l, .int 0 0] }).objs.size)))
      { s with heap := (s.heap.push { cls := .type "tuple_iterator", data := .fields #[.ref l, .int 0 0] }).push { cls := .type "enumerate", data := .fields #[.none, .bool false, .ref s.heap.objs.size, rawInt 0, .none, .none] } }) :=
  .of_wp fun prog w A R s ⟨hl, h⟩ => by
    obtain ⟨hp, gs, dr, tk, os⟩ := s
    have hs := sub_enumerate
    have hT : Heap.IsTuple (Shared.heap ⟨hp, gs, dr, tk, os⟩) l its := ⟨_, hl, rfl, n, rfl⟩
    wp_walk using wpAny_loadPart' hl
    refine wpAny_stack_any fun st => wpAny_pure ?_
    split
    · rename_i c _ _ _ _ _
      cases (c == Value.type "enumerate") <;> (wp_walk using wpAny_loadPart' hl, wpAny_pyIter_tuple hT; exact ⟨_, rfl, h⟩)
    · wp_walk using wpAny_loadPart' hl, wpAny_pyIter_tuple hT
      exact ⟨_, rfl, h⟩
theorem call_enumT {prog : Program} {w : World} {A : Around} {E : Value → Shared → Prop} {s : Shared} {l : Addr} {its : Array Value} {Q : Value → Shared → Prop} (hL : s.heap.IsTuple l its)
    (h : ∀ h', IsEnum h' (s.heap.objs.size + 1) s.heap.objs.size 0 .none → h'.IsTupleIter s.heap.objs.size l 0 → h'.objs.size = s.heap.objs.size + 2 → (∀ b o, s.heap.get? b = some o → h'.get? b = some o) →
      Q (.ref (s.heap.objs.size + 1)) { s with heap := h' }) : wpAny (model prog w) A (call (.type "enumerate") [.ref l]) Q E s := by
  obtain ⟨⟨c, dc, da, sl⟩, hl, hc, n, hd⟩ := hL
  have hc : c = .type "tuple" := hc
  have hd : da = .seq its n := hd
  subst hc; subst hd
  refine callType_new F.called_enumerate (by decide) (F.typeCall_enumerate_1 _) (F.newCall_enumerate_1 _) (fun obj => F.args_object_init_2 obj _) F.entry_enumerate_new (enum_newT l its n dc sl) ⟨hl, ?_⟩
  generalize hI : ({ cls := .type "tuple_iterator", data := .fields #[.ref l, .int 0 0] } : Obj) = oI
  have hz : (s.heap.push oI).objs.size = s.heap.objs.size + 1 := Heap.size_push ..
  show _ ∧ _
  rw [hz]
  have e1 : (s.heap.push oI).get? s.heap.objs.size = some oI := by rw [← hI]; exact Heap.get?_push_size _ rfl
  have he : IsEnum ((s.heap.push oI).push { cls := .type "enumerate", data := .fields #[.none, .bool false, .ref s.heap.objs.size, rawInt 0, .none, .none] }) (s.heap.objs.size + 1) s.heap.objs.size 0 .none := by
    have q := Heap.get?_push_size (s.heap.push oI) (o := { cls := .type "enumerate", data := .fields #[.none, .bool false, .ref s.heap.objs.size, rawInt 0, .none, .none] }) rfl
    rw [hz] at q; exact q
  exact ⟨⟨_, he, rfl⟩, h _ he ⟨_, Heap.get?_push_of_some _ e1, by rw [← hI], by rw [← hI]; rfl⟩ (by rw [Heap.size_push, hz]) fun b o x => Heap.get?_push_of_some _ (Heap.get?_push_of_some _ x)⟩
/-- the tuple at a, its items in new pairs with their places -/
def IteT (K : PySem.W.Frag) (a : Addr) : L2.It :=
  ⟨fun i H => ∃ (xs : List V) (x : V), SqT K H a xs ∧ xs[i]? = some x, fun i H v H' => ∃ T x, v = .ref T ∧ H T = none ∧ H' = upd H T (.tup [.int (i : Nat), x]) ∧ ∀ xs, SqT K H a xs → xs[i]? = some x,
    fun i H => ∃ xs : List V, SqT K H a xs ∧ xs.length = i⟩
theorem turn_enumT {P : Program} {w : World} {K : PySem.W.Frag} {elts : List Expr} {kk : Nat} {tpos : Pos} (a e it : Addr) (hne : e ≠ it) (hea : e ≠ a) (hia : it ≠ a) :
    Turn P w K (.Tuple elts kk tpos) (IteT K a) [e, it] e (fun i h => (∃ old, IsEnum h e it ((i : Nat) : Int) old) ∧ h.IsTupleIter it a i) where
  mem := by simp
  obj := fun i h st b hb => by
    obtain ⟨⟨old, he⟩, ⟨o, ho, hc, hd⟩⟩ := st
    rcases (show b = e ∨ b = it by simpa using hb) with z | z
    · rw [z]; exact ⟨_, he, fun v q => nomatch q⟩
    · exact ⟨o, by rw [z]; exact ho, fun v q => by rw [hd] at q; cases q⟩
  keep := fun i h h' st k => by
    obtain ⟨⟨old, he⟩, hi⟩ := st
    exact ⟨⟨old, k e (by simp) _ he⟩, hi.at fun o q => k it (by simp) o q⟩
  item := by
    intro X hP hw hK hc i pins s σ H E I hf ⟨⟨old, he⟩, hit⟩ ⟨xs, x, hq, hx⟩
    subst hP hw hK
    obtain ⟨its, rv, p, hz⟩ := I.tuple hq
    obtain ⟨u, hu, ru⟩ := rv.get hx
    have hi : i < its.toArray.size := by simpa using (List.getElem?_eq_some_iff.mp hu).1
    have hel := Heap.lt_size he
    have hil : it < s.heap.objs.size := by obtain ⟨_, q, _⟩ := hit; exact Heap.lt_size q
    have D := Draws.tuple (prog := X.prog) (w := X.w) (A := X.A.in1) (I.ok.hd hc) it a (Ne.symm hia) its.toArray
    refine wpAny_pyNext_enum_itemD D he ⟨hit, p⟩ hi hne (by simp [hne, hea]) fun y h' tk hy ho hst hT hsz hk => ?_
    have ey : y = u := by
      have q : its.toArray[i]? = some u := by simpa using hu
      rw [q] at hy; exact (Option.some.inj hy).symm
    subst ey
    refine ⟨_, rfl, wpAny_letOwnedTupleGo_enum (s := { s with heap := h', toks := tk + 1 }) ho fun h2 he2 sb => ?_⟩
    generalize hn : s.heap.objs.size = N at *
    have hT2 : h2.get? N = some { cls := .type "tuple", data := .seq #[.int i tk, y] } := (sb.2 _ (Nat.ne_of_gt hel)).trans hT
    have new : ObjOk X.prog X.w (upd H N (.tup [.int (i : Nat), x])) h2 N (.tup [.int (i : Nat), x]) :=
      ⟨by show 2 ≤ sizeLine; decide, [.int i tk, y], .cons ⟨_, rfl⟩ (.cons ru .nil), _, hT2, rfl, _, rfl⟩
    have I1 : Inv X pins σ (upd H N (.tup [.int (i : Nat), x])) { s with heap := h2, toks := tk + 1 } :=
      I.turnedNew (ch := [e, it]) (fun b ob hb q => (sb.2 b (fun z => hb (by simp [z]))).trans (hk b ob (fun z => hb (by simp [z])) (fun z => hb (by simp [z])) q)) hf (Nat.le_of_eq hn) new
    refine ⟨.ref N, _, I1, rfl, ⟨_, x, rfl, I.hok.fresh (Nat.le_of_eq hn), rfl, fun ys hy => by rw [I.tuple_inj hy hq]; exact hx⟩, ⟨⟨y, ?_⟩, hst.1.at fun o q => (sb.2 it (Ne.symm hne)).trans q⟩, fun b hb => ?_⟩
    · rw [show ((i + 1 : Nat) : Int) = (i : Int) + 1 by omega]; exact he2
    · have hb' : b < N := by
        rcases (show b = e ∨ b = it by simpa using hb) with z | z
        · rw [z]; exact hel
        · rw [z]; exact hil
      rw [upd_ne (Nat.ne_of_lt hb')]
      exact (hf b hb).1
  done := by
    intro X hP hw hK hc i pins s σ H E I hf ⟨⟨old, he⟩, hit⟩ ⟨xs, hq, hx⟩
    subst hP hw hK
    obtain ⟨its, rv, p, hz⟩ := I.tuple hq
    obtain ⟨f0, f1, f2, f3, f4, f5⟩ := hf it (by simp)
    have hl := rv.length
    have D := Draws.tuple (prog := X.prog) (w := X.w) (A := X.A.in1) (I.ok.hd hc) it a (Ne.symm hia) its.toArray
    have en : its.toArray.size = i := by simp; omega
    exact wpAny_pyNext_enum_endD D he (by rw [en]; exact ⟨hit, p⟩) fun h' eb => ⟨rfl, I.turned (t' := s.toks) (fun b o hb q => eb b o hb q) f0 f1 f3 f4 f5⟩
  self := fun A i s Q E st h => by
    obtain ⟨⟨_, he⟩, _⟩ := st
    exact wpAny_pyIter_enum he h
def iEnumT (K : PySem.W.Frag) (ta : TA) : TI := fun σ H R => ta σ H fun vs H1 => ∃ (a : Addr) (xs : List V), vs = [.ref a] ∧ SqT K H1 a xs ∧ R (IteT K a) H1
theorem pi_enumT {X : Cx} {e : Expr} {ta : TA} {p pos tpos : Pos} {elts : List Expr} {kk : Nat} (hg : Gl X "enumerate") (hm : X.mg "enumerate" = none) (ha : PA X [e] ta) (hs : starEach [e] X.env = [(false, eval e X.env)]) :
    PI X (.Tuple elts kk tpos) (.Call (.Name "enumerate" p) [e] [] pos) (iEnumT X.K ta) := by
  refine ⟨fun pins s σ H R I h => ?_⟩
  refine Call_ (ld_blt I hg hm boot_enumerate (PyProof.Rows.callWith_type1 (thn (ha.run pos pins s σ H _ I h) fun us s1 ⟨vs, H1, I1, r1, q1⟩ => ?_) hs rfl))
  obtain ⟨a, xs, ex, hq, q⟩ := q1
  subst ex
  cases r1 with
  | cons r rr =>
    cases rr
    cases r
    obtain ⟨its, rv, p', hz⟩ := I1.tuple hq
    refine call_enumT p' fun h' he hit hsz hk => wpAny_pyIter_enum he ?_
    have I2 : Inv X pins σ H1 { s1 with heap := h' } := I1.kept (t' := s1.toks) hk
    have ha' : a < s1.heap.objs.size := p'.lt
    refine ⟨s1.heap.objs.size + 1, [s1.heap.objs.size + 1, s1.heap.objs.size], _, _, H1, rfl, I2, turn_enumT a (s1.heap.objs.size + 1) s1.heap.objs.size (Nat.succ_ne_self _) (Nat.ne_of_gt (Nat.lt_succ_of_lt ha')) (Nat.ne_of_gt ha'), ⟨⟨.none, he⟩, hit⟩, fun b hb => ?_, q⟩
    have hle : s1.heap.objs.size ≤ b := by
      rcases (show b = s1.heap.objs.size + 1 ∨ b = s1.heap.objs.size by simpa using hb) with z | z
      · rw [z]; exact Nat.le_add_right _ _
      · rw [z]; exact Nat.le_refl _
    exact I1.fpOk hle (I1.hok.fresh hle)
theorem walk_enumT {K : PySem.W.Frag} {a : Addr} {xs : List V} : Walk (IteT K a) xs.length (fun H => SqT K H a xs) (YPair (fun i => some (.int (i : Nat))) (fun i => xs[i]?)) :=
  ⟨fun i _ hi q => ⟨xs, xs[i], q, by simp [hi]⟩, fun _ q => ⟨xs, q, rfl⟩, fun i H v H' _ q ⟨T, x, h1, h2, h3, h4⟩ => ⟨T, .int (i : Nat), x, h1, h2, h3, rfl, h4 xs q⟩⟩
theorem walk_zipT {K : PySem.W.Frag} {a b : Addr} {xs ys : List V} {n : Nat} (hn : n = min xs.length ys.length) : Walk (RZ.ItzT K a b) n (fun H => SqT K H a xs ∧ SqT K H b ys) (YPair (fun i => xs[i]?) (fun i => ys[i]?)) := by
  subst hn
  refine ⟨fun i _ hi q => ?_, fun _ q => ⟨xs, ys, q.1, q.2, by omega⟩, fun i H v H' _ q y => ?_⟩
  · have h1 : i < xs.length := by omega
    have h2 : i < ys.length := by omega
    exact ⟨xs, ys, xs[i], ys[i], q.1, q.2, by simp [h1], by simp [h2]⟩
  · obtain ⟨T, x, z, h1, h2, h3, h4, h5⟩ := y
    exact ⟨T, x, z, h1, h2, h3, h4 xs q.1, h5 ys q.2⟩
end Tw
end
section
/-! Part H: calls, what is walked, targets, comprehensions. -/
namespace Tw
open PySem PySem.Spec PyProof.Rows L2
section
variable {X : Cx} {c : Cc} {t : Tn} {g : Ga} {cs : Cs} {Wx : WX} {lv : Nat}
/-! ### calls -/
theorem pe_callS0 {CX : CXT} {k : Nat} {f : Addr} {fd : FuncData} {ps : List Str} {sp : Sp} {E : L2.St → XK} {x : Str} {p pos : Pos} (F : FnOk X.prog X.w X.K X.mg X.base CX k f fd ps sp) (hr : Room k X.A) (hg : Gl X x) (hm : X.mg x = some (.ref f)) (hk : PySem.W.keepIn X.K (.ref f) = true)
    (hb : Binds X.K fd ps []) (hx : ∀ σ, PassesAt CX X σ (E σ)) (hdb : (x == ("__debug__" : Str)) = false) : PE X (.Call (.Name x p) [] [] pos) (tCallS sp E tNil) := by
  refine ⟨fun pins s σ H Q I h => wpAny_Call_Name_kw (ld_glob I hg hm ?_ hdb)⟩
  exact PySem.W.callWith_K0 I.kIn hk (run_fnS (us := []) F hr hb (hx σ) I .nil h)
theorem chkEs_nil {es : Es} (h : chkEs t c es [] = true) : es = .nil := by
  cases es with
  | nil => rfl
  | cons e es => unfold chkEs at h; cases h
theorem sn_cal (go : GOk X.prog X.w X.K X.mg X.base g t cs lv) (xo : XOk g X c Wx lv) {f : Nat} {es : Es} {xs : List Expr} {x : Str} {p pos : Pos} (hf : t.fns[f]? = some x) (hg : glB c.sc x = true) (hn : nmOk x = true) (hst : xs.all noStar = true) (hc : chkEs t c es xs = true) (ha : PA X xs (rdEs X.K g cs lv Wx es)) :
    PE X (.Call (.Name x p) xs [] pos) (rdE X.K g cs lv Wx (.cal f es)) := by
  obtain ⟨a, fd, ps, e1, hm, hk, hb, F⟩ := go.fn lv (Nat.le_refl _) f x hf
  cases xs with
  | nil =>
    have e0 := chkEs_nil hc
    subst e0
    exact PE.of (pe_callS0 F xo.room (glB_ok xo.toXB hg) hm hk hb (fun σ => L2N.passAt xo.tk σ) (nmOk_ok hn).1) fun σ H Q ⟨W, s, r, ok, en, h⟩ => ⟨W, s, [], ok, rfl, h⟩
  | cons e es' =>
    obtain ⟨h1, h2⟩ := ba (show (noStar e && es'.all noStar) = true by simpa using hst)
    exact PE.of (pe_callS F xo.room (glB_ok xo.toXB hg) hm hk hb (fun σ => L2N.passAt xo.tk σ) ha (nmOk_ok hn).1 (star_no h1) (star_all h2))
      fun σ H Q ⟨W, s, r, ok, en, h⟩ => ⟨W, s, r, ok, en, (Post.bnd h).mono fun ds s1 W1 H1 x1 ok1 h1 vs rv => ⟨W1, s1, ds, ok1, rv, h1⟩⟩
/-! ### what is walked -/
/-- J gives the things ds, whatever else is made meanwhile -/
def ItOk (K : PySem.W.Frag) (g : Ga) (W : Wd) (ds : List D) (J : L2.It) : Prop := ∃ G Y, Walk J ds.length G Y ∧ (∀ W2 s2 H2, Le W W2 → Ok K g W2 s2 H2 → G H2) ∧
  ∀ (i : Nat) (d : D) W2 s2 H2 x H3, ds[i]? = some d → Le W W2 → Ok K g W2 s2 H2 → Y i H2 x H3 → ∃ W3, Ext W2 H2 W3 H3 ∧ Ok K g W3 s2 H3 ∧ Rep K g W3 d x
def rdI (K : PySem.W.Frag) (g : Ga) (cs : Cs) (lv : Nat) (Wx : WX) (it : It) : TI := fun σ H R => ∃ W s r, Ok K g W s H ∧ EnvR K g W H r σ ∧ Post K g W H (evI cs r it lv s) (fun ds _ W' H' => ∀ J, ItOk K g W' ds J → R J H') (fun c dd H' => Wx c dd σ H')
theorem itOk_list {W : Wd} {ds : List D} {vs : List V} {a : Addr} (hp : SqL X.K W.F a vs) (r : RepL X.K g W ds vs) : ItOk X.K g W ds (Itl X.K a) :=
  ⟨_, YAt vs, r.length ▸ walk_list, fun W2 s2 H2 l ok => sqL_H ok (sqL_mono l.1 hp), fun i d W2 s2 H2 x H3 hd l ok y => by
    obtain ⟨e, hx⟩ := y
    subst e
    obtain ⟨v, e1, rp⟩ := r.get hd
    rw [e1] at hx; cases hx
    exact ⟨W2, .refl _ _, ok, rp.mono l⟩⟩
theorem itOk_tup {W : Wd} {ds : List D} {vs : List V} {a : Addr} (hp : SqT X.K W.F a vs) (r : RepL X.K g W ds vs) : ItOk X.K g W ds (Itt X.K a) :=
  ⟨_, YAt vs, r.length ▸ walk_tup, fun W2 s2 H2 l ok => sqT_H ok (sqT_mono l.1 hp), fun i d W2 s2 H2 x H3 hd l ok y => by
    obtain ⟨e, hx⟩ := y
    subst e
    obtain ⟨v, e1, rp⟩ := r.get hd
    rw [e1] at hx; cases hx
    exact ⟨W2, .refl _ _, ok, rp.mono l⟩⟩
theorem itOk_fn {W : Wd} {ds : List D} {J : L2.It} {n : Nat} {f : Nat → V} (w : Walk J n (fun _ => True) (YFn f)) (hn : ds.length = n) (h : ∀ i d, ds[i]? = some d → Rep X.K g W d (f i)) : ItOk X.K g W ds J :=
  ⟨_, YFn f, hn ▸ w, fun _ _ _ _ _ => trivial, fun i d W2 s2 H2 x H3 hd l ok y => by
    obtain ⟨e, ex⟩ := y
    subst e; subst ex
    exact ⟨W2, .refl _ _, ok, (h i d hd).mono l⟩⟩
theorem itOk_pair {W : Wd} {ds : List D} {J : L2.It} {n : Nat} {xs ys : Nat → Option V} {G : Hp → Prop} (w : Walk J n G (YPair xs ys)) (hn : ds.length = n) (hG : ∀ W2 s2 H2, Le W W2 → Ok X.K g W2 s2 H2 → G H2)
    (h : ∀ i d x y, ds[i]? = some d → xs i = some x → ys i = some y → ∃ a b, d = .tup [a, b] ∧ Rep X.K g W a x ∧ Rep X.K g W b y) : ItOk X.K g W ds J :=
  ⟨_, YPair xs ys, hn ▸ w, hG, fun i d W2 s2 H2 x H3 hd l ok y => by
    obtain ⟨T, x', y', ex, hT, eH, e1, e2⟩ := y
    subst ex; subst eH
    obtain ⟨a, b, ed, ra, rb⟩ := h i d x' y' hd e1 e2
    subst ed
    exact ⟨_, .alloc (ok.unF hT) hT, ok.alloc hT, rep_tup (ok.unF hT) (.cons (ra.mono l) (.cons (rb.mono l) .nil))⟩⟩
theorem enmD_len : ∀ (k : Nat) (xs : List D), (enmD k xs).length = xs.length
  | _, [] => rfl
  | k, x :: xs => by simp [enmD, enmD_len (k + 1) xs]
theorem enmD_get : ∀ (k : Nat) (xs : List D) (i : Nat), (enmD k xs)[i]? = (xs[i]?).map fun x => .tup [.int ((k + i : Nat) : Int), x]
  | _, [], i => by simp [enmD]
  | k, x :: xs, 0 => by simp [enmD]
  | k, x :: xs, i + 1 => by
    simp only [enmD, List.getElem?_cons_succ]
    rw [enmD_get (k + 1) xs i, show k + 1 + i = k + (i + 1) by omega]
theorem itOk_enm {W : Wd} {ds : List D} {vs : List V} {J : L2.It} {G : Hp → Prop} (w : Walk J vs.length G (YPair (fun i => some (.int (i : Nat))) (fun i => vs[i]?))) (hG : ∀ W2 s2 H2, Le W W2 → Ok X.K g W2 s2 H2 → G H2) (r : RepL X.K g W ds vs) : ItOk X.K g W (enmD 0 ds) J :=
  itOk_pair w (by rw [enmD_len, r.length]) hG fun i d x y hd hx hy => by
    rw [enmD_get] at hd
    obtain ⟨d', e1, e2⟩ := opt_map hd
    obtain ⟨v, e3, rp⟩ := r.get e1
    rw [e3] at hy; cases hy
    cases hx
    exact ⟨_, _, e2.symm, by rw [Nat.zero_add]; exact rfl, rp⟩
theorem itOk_zip {W : Wd} {ds es : List D} {vs us : List V} {J : L2.It} {G : Hp → Prop} (w : Walk J (min vs.length us.length) G (YPair (fun i => vs[i]?) (fun i => us[i]?))) (hG : ∀ W2 s2 H2, Le W W2 → Ok X.K g W2 s2 H2 → G H2) (r : RepL X.K g W ds vs) (r2 : RepL X.K g W es us) :
    ItOk X.K g W (ds.zipWith (fun x y => .tup [x, y]) es) J :=
  itOk_pair w (by rw [List.length_zipWith, r.length, r2.length]) hG fun i d x y hd hx hy => by
    rw [List.getElem?_zipWith] at hd
    split at hd
    · rename_i a b e1 e2
      cases hd
      obtain ⟨v, e3, rp⟩ := r.get e1
      obtain ⟨u, e4, rp2⟩ := r2.get e2
      rw [e3] at hx; cases hx
      rw [e4] at hy; cases hy
      exact ⟨_, _, rfl, rp, rp2⟩
    · cases hd
theorem range_get {n : Nat} {f : Nat → D} {i : Nat} {d : D} (h : ((List.range n).map f)[i]? = some d) : d = f i := by
  rw [List.getElem?_map] at h
  obtain ⟨j, e1, e2⟩ := opt_map h
  have e3 : j = i := by
    rw [List.getElem?_range] at e1 <;> first | exact (Option.some.inj e1).symm | skip
    by_cases q : i < n
    · exact q
    · rw [List.getElem?_eq_none_iff.mpr (by simpa using q)] at e1; cases e1
  rw [← e2, e3]
theorem evEs_len {r : Rho} : ∀ {es : Es} {s : S} {ds : List D} {s' : S} {xs : List Expr}, evEs cs r es lv s = .ok ds s' → chkEs t c es xs = true → ds.length = xs.length
  | .nil, s, ds, s', xs, h, hc => by
    unfold evEs at h; cases h
    cases xs with
    | nil => rfl
    | cons x xs => unfold chkEs at hc; cases hc
  | .cons e es, s, ds, s', xs, h, hc => by
    cases xs with
    | nil => unfold chkEs at hc; cases hc
    | cons x xs =>
      unfold chkEs at hc
      unfold evEs at h
      cases h1 : evE cs r e lv s with
      | ok y s1 =>
        rw [h1, bnd_ok] at h
        cases h2 : evEs cs r es lv s1 with
        | ok ys s2 =>
          rw [h2, bnd_ok] at h
          cases h
          simp [evEs_len h2 (ba hc).2]
        | ex x s2 => rw [h2, bnd_ex] at h; cases h
        | bad => rw [h2, bnd_bad] at h; cases h
      | ex x s1 => rw [h1, bnd_ex] at h; cases h
      | bad => rw [h1, bnd_bad] at h; cases h
/-- by what comes of it -/
theorem Post.eq {α : Type} {K : PySem.W.Frag} {W : Wd} {H : Hp} {o : Out α} {k : α → S → Wd → Hp → Prop} {E : XK} (h : Post K g W H o k E) (f : ∀ a s', o = .ok a s' → ∀ W' H', Ext W H W' H' → Ok K g W' s' H' → k a s' W' H' → True) : Post K g W H o (fun a s' W' H' => o = .ok a s' ∧ k a s' W' H') E := by
  cases o with
  | ok a s' => exact fun W' H' x y => ⟨rfl, h W' H' x y⟩
  | ex x s' => exact h
  | bad => exact h
theorem sn_seq {a : E} {x tg : Expr} (ha : PE X x (rdE X.K g cs lv Wx a)) : PI X tg x (rdI X.K g cs lv Wx (.seq a)) := by
  refine ⟨fun pins s0 σ H R I ⟨W, s, r, ok, en, h⟩ => ?_⟩
  have h' := Post.eq (Post.bnd h) fun _ _ _ _ _ _ _ _ => trivial
  by_cases hk : ∃ ds s1, evE cs r a lv s = .ok (.tup ds) s1
  · obtain ⟨ds, s1, e⟩ := hk
    refine (pi_tup ha).run pins s0 σ H R I ⟨W, s, r, ok, en, h'.mono fun y s2 W1 H1 x1 ok1 h1 v rv => ?_⟩
    obtain ⟨e2, h1⟩ := h1
    rw [e] at e2; cases e2
    obtain ⟨a', vs, rfl, hp, r1⟩ := rv
    exact ⟨a', rfl, ⟨vs, sqT_H ok1 hp⟩, Post.now h1 ok1 _ (itOk_tup hp r1)⟩
  · refine (pi_list ha).run pins s0 σ H R I ⟨W, s, r, ok, en, h'.mono fun y s2 W1 H1 x1 ok1 h1 v rv => ?_⟩
    obtain ⟨e2, h1⟩ := h1
    cases y with
    | lst ds =>
      obtain ⟨a', vs, rfl, hp, r1⟩ := rv
      exact ⟨a', rfl, ⟨vs, sqL_H ok1 hp⟩, Post.now h1 ok1 _ (itOk_list hp r1)⟩
    | tup ds => exact (hk ⟨ds, s2, e2⟩).elim
    | _ => exact h1.elim
theorem rng_ok {es : Es} {xs : List Expr} {r : Rho} {s : S} {W : Wd} {H : Hp} {σ : L2.St} {R : L2.It → Hp → Prop} {tI : TA → TI} {n : Nat} (hc : chkEs t c es xs = true) (hn : xs.length = n) (en : EnvR X.K g W H r σ) (ok : Ok X.K g W s H)
    (h : Post X.K g W H (bnd (evEs cs r es lv s) fun xs s1 => opt (rangeD xs) s1) (fun ds _ W' H' => ∀ J, ItOk X.K g W' ds J → R J H') (fun c dd H' => Wx c dd σ H')) :
    rdEs X.K g cs lv Wx es σ H fun vs H1 => ∃ ds W1, RepL X.K g W1 ds vs ∧ ds.length = n ∧ ∃ ys, rangeD ds = some ys ∧ ∀ J, ItOk X.K g W1 ys J → R J H1 := by
  refine ⟨W, s, r, ok, en, (Post.eq (Post.bnd h) fun _ _ _ _ _ _ _ _ => trivial).mono fun ds s1 W1 H1 x1 ok1 h1 vs rv => ?_⟩
  obtain ⟨e, h1⟩ := h1
  obtain ⟨ys, e1, q⟩ := Post.opt h1 ok1
  exact ⟨ds, W1, rv, by rw [evEs_len e hc, hn], ys, e1, q⟩
theorem big62 {i : Int} (h : i.natAbs ≤ big) : -(2 ^ 62) ≤ i ∧ i < 2 ^ 62 := by unfold big at h; omega
theorem sn_rng (go : GOk X.prog X.w X.K X.mg X.base g t cs lv) (xo : XOk g X c Wx lv) {es : Es} {xs : List Expr} {x : Str} {p pos : Pos} {tg : Expr} (hx : bltB t c.sc x "range" = true) (hst : xs.all noStar = true) (hle : xs.length ≤ 3) (hc : chkEs t c es xs = true) (ha : PA X xs (rdEs X.K g cs lv Wx es)) :
    PI X tg (.Call (.Name x p) xs [] pos) (rdI X.K g cs lv Wx (.rng es)) := by
  obtain ⟨rfl, hg, hm⟩ := bltB_ok go xo.toXB hx
  match xs, hle, hst, hc, ha with
  | [], _, hst, hc, ha =>
    have e0 := chkEs_nil hc
    subst e0
    exact ⟨fun pins s0 σ H R I ⟨W, s, r, ok, en, h⟩ => (show False from h).elim⟩
  | [a], _, hst, hc, ha =>
    have s1 : noStar a = true := by simpa using hst
    refine PI.of (pi_range1 hg hm ha (star_no s1)) fun σ H R ⟨W, s, r, ok, en, h⟩ => ?_
    obtain ⟨W, s, r, ok, en, h⟩ := rng_ok (tI := fun _ => iRng1 (rdEs X.K g cs lv Wx es)) hc rfl en ok h
    refine ⟨W, s, r, ok, en, h.mono fun ds s1 W1 H1 x1 ok1 h1 vs rv => ?_⟩
    obtain ⟨ds', W1', rv', hl, ys, e, q⟩ := h1 vs rv
    unfold rangeD at e
    split at e
    · rename_i j
      split at e
      · rename_i hj
        cases e
        obtain ⟨v, rfl, r1⟩ := rv'.inv1
        cases r1
        exact ⟨j, rfl, (big62 hj).1, (big62 hj).2, q _ (itOk_fn walk_range (by simp) fun i d hd => by rw [range_get hd]; show V.int (0 + _) = _; rw [Int.zero_add])⟩
      · cases e
    · cases hl
    · cases hl
    · cases e
  | [a, b], _, hst, hc, ha =>
    obtain ⟨s1, s2⟩ := ba (show (noStar a && noStar b) = true by simpa using hst)
    refine PI.of (pi_range2 hg hm ha (by rw [star_no s1, star_no s2]; rfl) (by rw [star_no s2]; rfl)) fun σ H R ⟨W, s, r, ok, en, h⟩ => ?_
    obtain ⟨W, s, r, ok, en, h⟩ := rng_ok (tI := fun _ => iRng2 (rdEs X.K g cs lv Wx es)) hc rfl en ok h
    refine ⟨W, s, r, ok, en, h.mono fun ds s1 W1 H1 x1 ok1 h1 vs rv => ?_⟩
    obtain ⟨ds', W1', rv', hl, ys, e, q⟩ := h1 vs rv
    unfold rangeD at e
    split at e
    · cases hl
    · rename_i i j
      split at e
      · rename_i hj
        cases e
        obtain ⟨v, u, rfl, r1, r2⟩ := rv'.inv2
        cases r1; cases r2
        exact ⟨i, j, rfl, ⟨(big62 hj.1).1, (big62 hj.1).2, (big62 hj.2).1, (big62 hj.2).2⟩, q _ (itOk_fn walk_range (by simp) fun i d hd => by rw [range_get hd]; rfl)⟩
      · cases e
    · cases hl
    · cases e
  | [a, b, d], _, hst, hc, ha =>
    obtain ⟨s1, s2⟩ := ba (show (noStar a && [b, d].all noStar) = true by simpa using hst)
    refine PI.of (pi_range3 hg hm ha (star_no s1) (star_all s2)) fun σ H R ⟨W, s, r, ok, en, h⟩ => ?_
    obtain ⟨W, s, r, ok, en, h⟩ := rng_ok (tI := fun _ => iRng3 (rdEs X.K g cs lv Wx es)) hc rfl en ok h
    refine ⟨W, s, r, ok, en, h.mono fun ds s1 W1 H1 x1 ok1 h1 vs rv => ?_⟩
    obtain ⟨ds', W1', rv', hl, ys, e, q⟩ := h1 vs rv
    unfold rangeD at e
    split at e
    · cases hl
    · cases hl
    · rename_i i j
      split at e
      · rename_i hj
        cases e
        obtain ⟨v, rs, rfl, r1, r2⟩ := rv'
        obtain ⟨u, w, rfl, r2, r3⟩ := r2.inv2
        cases r1; cases r2; cases r3
        exact ⟨i, j, -1, _, rfl, RgC.neg (big62 hj.1).1 (big62 hj.1).2 (big62 hj.2).1 (big62 hj.2).2, q _ (itOk_fn walk_rangeC (by simp) fun i d hd => by rw [range_get hd]; rfl)⟩
      · cases e
    · cases e
  | a :: b :: d :: f :: r, hle, _, _, _ => simp at hle
theorem sn_enm (go : GOk X.prog X.w X.K X.mg X.base g t cs lv) (xo : XOk g X c Wx lv) {a : E} {x : Str} {e : Expr} {p pos tpos : Pos} {elts : List Expr} {kk : Nat} (hx : bltB t c.sc x "enumerate" = true) (hs : noStar e = true) (ha : PE X e (rdE X.K g cs lv Wx a)) :
    PI X (.Tuple elts kk tpos) (.Call (.Name x p) [e] [] pos) (rdI X.K g cs lv Wx (.enm a)) := by
  obtain ⟨rfl, hg, hm⟩ := bltB_ok go xo.toXB hx
  have hA : PA X [e] (tCons (rdE X.K g cs lv Wx a) tNil) := pa_cons ha pa_nil (star_no hs)
  refine ⟨fun pins s0 σ H R I ⟨W, s, r, ok, en, h⟩ => ?_⟩
  have h' := Post.eq (Post.bnd h) fun _ _ _ _ _ _ _ _ => trivial
  by_cases hk : ∃ ds s1, evE cs r a lv s = .ok (.tup ds) s1
  · obtain ⟨ds, s1, e⟩ := hk
    refine (pi_enumT hg hm hA (star_no hs)).run pins s0 σ H R I ⟨W, s, r, ok, en, h'.mono fun y s2 W1 H1 x1 ok1 h1 v rv => ?_⟩
    obtain ⟨e2, h1⟩ := h1
    rw [e] at e2; cases e2
    obtain ⟨a', vs, rfl, hp, r1⟩ := rv
    exact ⟨a', vs, rfl, sqT_H ok1 hp, Post.now h1 ok1 _ (itOk_enm walk_enumT (fun W2 s2 H2 l o => sqT_H o (sqT_mono l.1 hp)) r1)⟩
  · refine (pi_enum hg hm hA (star_no hs)).run pins s0 σ H R I ⟨W, s, r, ok, en, h'.mono fun y s2 W1 H1 x1 ok1 h1 v rv => ?_⟩
    obtain ⟨e2, h1⟩ := h1
    cases y with
    | lst ds =>
      obtain ⟨a', vs, rfl, hp, r1⟩ := rv
      exact ⟨a', vs, rfl, sqL_H ok1 hp, Post.now h1 ok1 _ (itOk_enm walk_enum (fun W2 s2 H2 l o => sqL_H o (sqL_mono l.1 hp)) r1)⟩
    | tup ds => exact (hk ⟨ds, s2, e2⟩).elim
    | _ => exact h1.elim
theorem sn_zip (go : GOk X.prog X.w X.K X.mg X.base g t cs lv) (xo : XOk g X c Wx lv) {a b : E} {x : Str} {e f : Expr} {p pos tpos : Pos} {elts : List Expr} {kk : Nat} (hx : bltB t c.sc x "zip" = true) (hs : noStar e = true) (hs2 : noStar f = true) (ha : PE X e (rdE X.K g cs lv Wx a)) (hb : PE X f (rdE X.K g cs lv Wx b)) :
    PI X (.Tuple elts kk tpos) (.Call (.Name x p) [e, f] [] pos) (rdI X.K g cs lv Wx (.zip a b)) := by
  obtain ⟨rfl, hg, hm⟩ := bltB_ok go xo.toXB hx
  have hA : PA X [e, f] (tCons (rdE X.K g cs lv Wx a) (tCons (rdE X.K g cs lv Wx b) tNil)) := pa_cons ha (pa_cons hb pa_nil (star_no hs2)) (star_no hs)
  refine PI.of (RZ.pi_zipA hg hm hA (star_no hs) (star_all (by simp [hs2]))) fun σ H R ⟨W, s, r, ok, en, h⟩ => ?_
  refine ⟨W, s, r, ok, en, (Post.bnd h).mono fun y s1 W1 H1 x1 ok1 h1 v rv => ⟨W1, s1, r, ok1, en.ext x1, (Post.bnd h1).mono fun z s2 W2 H2 x2 ok2 h2 u ru => ?_⟩⟩
  obtain ⟨ys, e, q⟩ := Post.opt h2 ok2
  have rv' := rv.mono x2.le
  unfold zipD at e
  split at e
  · cases e
    obtain ⟨p, vs, rfl, hp, r1⟩ := rv'
    obtain ⟨q', us, rfl, hq, r2⟩ := ru
    exact ⟨p, q', vs, us, rfl, .inr ⟨sqT_H ok2 hp, sqT_H ok2 hq, q _ (itOk_zip (walk_zipT rfl) (fun W3 s3 H3 l o => ⟨sqT_H o (sqT_mono l.1 hp), sqT_H o (sqT_mono l.1 hq)⟩) r1 r2)⟩⟩
  · cases e
    obtain ⟨p, vs, rfl, hp, r1⟩ := rv'
    obtain ⟨q', us, rfl, hq, r2⟩ := ru
    exact ⟨p, q', vs, us, rfl, .inl ⟨sqL_H ok2 hp, sqL_H ok2 hq, q _ (itOk_zip (walk_zip rfl) (fun W3 s3 H3 l o => ⟨sqL_H o (sqL_mono l.1 hp), sqL_H o (sqL_mono l.1 hq)⟩) r1 r2)⟩⟩
  · cases e
end
end Tw
end
section
/-! Part I: targets, comprehensions. -/
namespace Tw
open PySem PySem.Spec PyProof.Rows L2
section
variable {X : Cx} {c : Cc} {t : Tn} {g : Ga} {cs : Cs} {Wx : WX} {lv : Nat}
/-- but for the slots at L all is as it was -/
def Only (L : List Nat) (σ σ' : L2.St) : Prop := σ'.length = σ.length ∧ ∀ j, j ∉ L → σ'[j]? = σ[j]?
def rdG (K : PySem.W.Frag) (g : Ga) (tg : Tg) : TG := fun v σ H Q => ∃ W s r d r', Ok K g W s H ∧ EnvR K g W H r σ ∧ Rep K g W d v ∧ tgR r tg d = some r' ∧ ∀ σ', EnvR K g W H r' σ' → Only tg.slots σ σ' → Q σ' H
theorem EnvR.set {W : Wd} {H : Hp} {r : Rho} {σ : L2.St} {i : Nat} {d : D} {v : V} (en : EnvR X.K g W H r σ) (rv : Rep X.K g W d v) (hi : i < r.length) : EnvR X.K g W H (r.set i (.v d)) (σ.set i (some v)) where
  len := by simp [en.len]
  at_ := fun j sl h => by
    by_cases e : j = i
    · subst e
      rw [List.getElem?_set_self hi] at h
      cases h
      exact ⟨v, List.getElem?_set_self (by rw [← en.len]; exact hi), rv⟩
    · rw [List.getElem?_set_ne (Ne.symm e)] at h ⊢
      exact en.at_ j sl h
theorem only_set {σ : L2.St} {i : Nat} {x : Option V} : Only [i] σ (σ.set i x) := ⟨by simp, fun j hj => List.getElem?_set_ne (fun e => hj (by simp [e]))⟩
theorem Only.trans {L L' : List Nat} {σ σ1 σ2 : L2.St} (a : Only L σ σ1) (b : Only L' σ1 σ2) : Only (L ++ L') σ σ2 := ⟨b.1.trans a.1, fun j hj => by
  rw [List.mem_append, not_or] at hj
  rw [b.2 j hj.2, a.2 j hj.1]⟩
theorem Only.mono {L L' : List Nat} {σ σ1 : L2.St} (a : Only L σ σ1) (h : ∀ j ∈ L, j ∈ L') : Only L' σ σ1 := ⟨a.1, fun j hj => a.2 j fun z => hj (h j z)⟩
theorem locB_ok (xo : XB X c) {x : Str} (h : locB c x = true) : Loc X.env.scope x ∧ (X.fn x = true ∨ X.env.scope.names.lookup x = some .local) := by
  unfold locB at h
  rw [xo.sc]
  rcases Bool.or_eq_true_iff.mp h with h | h
  · have h := of_decide_eq_true h
    exact ⟨.inl h, .inr h⟩
  · obtain ⟨h1, h2⟩ := ba h
    exact ⟨.inr (of_decide_eq_true h1), .inl (xo.fn x h2)⟩
theorem PG.of {e : Expr} {t t' : TG} (h : PG X e t) (f : ∀ v σ H Q, t' v σ H Q → t v σ H Q) : PG X e t' := ⟨fun pins s σ H v u Q I r q => h.run pins s σ H v u Q I r (f v σ H Q q)⟩
theorem PGs.of {e : List Expr} {t t' : TGs} (h : PGs X e t) (f : ∀ v σ H Q, t' v σ H Q → t v σ H Q) : PGs X e t' := ⟨fun pins s σ H v u Q I r q => h.run pins s σ H v u Q I r (f v σ H Q q)⟩
theorem setR_some {r r' : Rho} {i : Nat} {d : D} (h : setR r i d = some r') : i < r.length ∧ r' = r.set i (.v d) := by
  unfold setR at h
  split at h
  · cases h; exact ⟨by assumption, rfl⟩
  · cases h
theorem sn_gn (xo : XB X c) {i : Nat} {x : Str} {pos : Pos} (h1 : c.N[i]? = some x) (h2 : locB c x = true) : PG X (.Name x pos) (rdG X.K g (.nm i)) := by
  obtain ⟨hl, hf⟩ := locB_ok xo h2
  refine PG.of (pg_name (i := i) (by rw [xo.N]; exact xo.nd) (by rw [xo.N]; exact h1) hl hf) fun v σ H Q ⟨W, s, r, d, r', ok, en, rv, e, q⟩ => ?_
  obtain ⟨hi, e⟩ := setR_some e
  subst e
  exact q _ (en.set rv hi) only_set
def rdGs (K : PySem.W.Frag) (g : Ga) (is : List Nat) : TGs := fun vs σ H Q => ∃ W s r ds r', Ok K g W s H ∧ EnvR K g W H r σ ∧ RepL K g W ds vs ∧ setRs r is ds = some r' ∧ ∀ σ', EnvR K g W H r' σ' → Only is σ σ' → Q σ' H
theorem sn_gs (xo : XB X c) : ∀ {is : List Nat} {es : List Expr}, locsB c is es = true → PGs X es (rdGs X.K g is) ∧ (assignEach es X.env).length = is.length ∧ (assignEach es X.env).findIdx? (·.1) = none
  | [], [], _ => by
    refine ⟨PGs.of pgs_nil fun vs σ H Q ⟨W, s, r, ds, r', ok, en, rv, e, q⟩ => ?_, rfl, rfl⟩
    cases ds with
    | nil =>
      cases rv
      cases e
      exact ⟨rfl, q σ en ⟨rfl, fun _ _ => rfl⟩⟩
    | cons d ds => cases e
  | i :: is, .Name x p :: es, h => by
    unfold locsB at h
    obtain ⟨h, h4⟩ := ba h
    obtain ⟨h, h3⟩ := ba h
    obtain ⟨h1, h2⟩ := ba h
    obtain ⟨hl, hf⟩ := locB_ok xo h2
    obtain ⟨ih1, ih2, ih3⟩ := sn_gs xo h4
    refine ⟨PGs.of (pgs_cons (sn_gn (g := g) xo (of_decide_eq_true h1) h2) ih1 rfl) fun vs σ H Q ⟨W, s, r, ds, r', ok, en, rv, e, q⟩ => ?_, ?_, ?_⟩
    · cases ds with
      | nil => cases e
      | cons d ds =>
        obtain ⟨v, vr, rfl, r1, r2⟩ := rv
        obtain ⟨r1', e1, e2⟩ := Option.bind_eq_some_iff.mp (show ((setR r i d).bind fun r => setRs r is ds) = some r' from e)
        exact ⟨v, vr, rfl, W, s, r, d, r1', ok, en, r1, e1, fun σ' en' o1 => ⟨W, s, r1', ds, r', ok, en', r2, e2, fun σ2 en2 o2 => q σ2 en2 (o1.trans o2)⟩⟩
    · show (assignEach es X.env).length + 1 = is.length + 1
      rw [ih2]
    · show List.findIdx? _ ((false, _) :: assignEach es X.env) = none
      rw [List.findIdx?_cons]
      simp [ih3]
theorem setRs_len : ∀ {is : List Nat} {ds : List D} {r r' : Rho}, setRs r is ds = some r' → ds.length = is.length
  | [], [], _, _, _ => rfl
  | [], _ :: _, _, _, h => by cases h
  | _ :: _, [], _, _, h => by cases h
  | i :: is, d :: ds, r, r', h => by
    obtain ⟨r1, _, e2⟩ := Option.bind_eq_some_iff.mp (show ((setR r i d).bind fun r => setRs r is ds) = some r' from h)
    simp [setRs_len e2]
theorem sn_gt (xo : XOk g X c Wx lv) {is : List Nat} {es : List Expr} {k : Nat} {pos : Pos} (h : locsB c is es = true) : PG X (.Tuple es k pos) (rdG X.K g (.tp is)) := by
  obtain ⟨h1, h2, h3⟩ := sn_gs (g := g) xo.toXB h
  refine PG.of (pg_tup xo.calm h1 h2 h3) fun v σ H Q ⟨W, s, r, d, r', ok, en, rv, e, q⟩ => ?_
  unfold tgR at e
  cases d with
  | tup ds =>
    obtain ⟨a, vs, rfl, hp, r1⟩ := rv
    exact ⟨a, vs, rfl, sqT_H ok hp, by rw [r1.length, setRs_len e], W, s, r, ds, r', ok, en, r1, e, fun σ' en' o => q σ' en' o⟩
  | _ => cases e
theorem sn_tg (xo : XOk g X c Wx lv) {tg : Tg} {e : Expr} (h : tgB c tg e = true) : PG X e (rdG X.K g tg) := by
  unfold tgB at h
  split at h
  · obtain ⟨h, h3⟩ := ba h
    obtain ⟨h1, h2⟩ := ba h
    exact sn_gn xo.toXB (of_decide_eq_true h1) h2
  · exact sn_gt xo h
  · cases h
/-! ### a clause's test -/
def WF : WX := fun _ _ _ _ => False
theorem Post.noex {α : Type} {K : PySem.W.Frag} {W : Wd} {H : Hp} {o : Out α} {k : α → S → Wd → Hp → Prop} {E E' : XK} (h : Post K g W H (noex o) k E) : Post K g W H o k E' := by
  cases o with
  | ok a s' => exact h
  | ex x s' => exact h.elim
  | bad => exact h
def rdC (K : PySem.W.Frag) (g : Ga) (cs : Cs) (lv : Nat) (q : Eo) : TT := fun σ H Q => ∃ W s r, Ok K g W s H ∧ EnvR K g W H r σ ∧ Post K g W H (evC cs r q lv s) (fun b _ W' H' => Q b H') (fun _ _ _ => False)
theorem PTs.of {e : List Expr} {t t' : TT} (h : PTs X e t) (f : ∀ σ H Q, t' σ H Q → t σ H Q) : PTs X e t' := ⟨fun pins s σ H Q I q => h.run pins s σ H Q I (f σ H Q q)⟩
theorem sn_c0 : PTs X [] (rdC X.K g cs lv .no) := PTs.of pts_nil fun σ H Q ⟨W, s, r, ok, en, h⟩ => Post.now h ok
theorem sn_c1 {a : E} {x : Expr} (h : PT X x (rdT X.K g cs lv WF a)) : PTs X [x] (rdC X.K g cs lv (.so a)) := PTs.of (pts_one h) fun σ H Q ⟨W, s, r, ok, en, h⟩ =>
  ⟨W, s, r, ok, en, ((Post.bnd h).noex).mono fun y s1 W1 H1 x1 ok1 h1 => by
    obtain ⟨b, e, q⟩ := Post.opt h1 ok1
    cases y <;> cases e
    exact ⟨_, rfl, q⟩⟩
/-! ### comprehensions -/
theorem wipe_at (σ : L2.St) : ∀ (L : List Nat) (j : Nat), (wipe σ L)[j]? = if j ∈ L ∧ j < σ.length then some none else σ[j]?
  | [], j => by simp [wipe]
  | i :: L, j => by
    show ((wipe σ L).set i none)[j]? = _
    by_cases e : j = i
    · subst e
      by_cases hl : j < σ.length
      · rw [List.getElem?_set_self (by rw [wipe_length]; exact hl), if_pos ⟨.head _, hl⟩]
      · rw [if_neg (fun z => hl z.2), List.getElem?_eq_none_iff.mpr (by simp [wipe_length]; omega), List.getElem?_eq_none_iff.mpr (by omega)]
    · rw [List.getElem?_set_ne (Ne.symm e), wipe_at σ L j]
      have q : (j ∈ i :: L ∧ j < σ.length) ↔ (j ∈ L ∧ j < σ.length) := by simp [e]
      by_cases z : j ∈ L ∧ j < σ.length
      · rw [if_pos z, if_pos (q.mpr z)]
      · rw [if_neg z, if_neg fun y => z (q.mp y)]
theorem wipe_only {L L' : List Nat} {σ σ2 : L2.St} (o : Only L (wipe σ L') σ2) (h : ∀ j ∈ L, j ∈ L') : wipe σ2 L' = wipe σ L' := by
  have hl : σ2.length = σ.length := by rw [o.1, wipe_length]
  apply List.ext_getElem?
  intro j
  rw [wipe_at, wipe_at, hl]
  by_cases z : j ∈ L' ∧ j < σ.length
  · rw [if_pos z, if_pos z]
  · rw [if_neg z, if_neg z]
    by_cases y : j ∈ L
    · have hj : ¬ j < σ.length := fun q => z ⟨h j y, q⟩
      rw [List.getElem?_eq_none_iff.mpr (by omega), List.getElem?_eq_none_iff.mpr (by omega)]
    · rw [o.2 j y, wipe_at, if_neg z]
theorem wipeR_len (r : Rho) : ∀ L, (wipeR r L).length = r.length
  | [] => rfl
  | i :: L => by simp [wipeR, wipeR_len r L]
theorem EnvR.wipe {W : Wd} {H : Hp} {r : Rho} {σ : L2.St} (en : EnvR X.K g W H r σ) : ∀ L, EnvR X.K g W H (wipeR r L) (L2.wipe σ L)
  | [] => en
  | i :: L => by
    have ih := EnvR.wipe en L
    refine ⟨by simp [wipeR, L2.wipe, ih.len], fun j sl h => ?_⟩
    have h : ((wipeR r L).set i .no)[j]? = some sl := h
    show SlR X.K g W H sl ((L2.wipe σ L).set i none)[j]?
    by_cases e : j = i
    · subst e
      by_cases hl : j < (wipeR r L).length
      · rw [List.getElem?_set_self hl] at h; cases h; trivial
      · rw [List.getElem?_eq_none_iff.mpr (by simp; omega)] at h; cases h
    · rw [List.getElem?_set_ne (Ne.symm e)] at h ⊢
      exact ih.at_ j sl h
/-- one turn of the evaluator's comprehension -/
def lcF (cs : Cs) (lv : Nat) (r : Rho) (own : List Nat) (tg : Tg) (q : Eo) (e : E) (d : D) (s : S) : Out (Option D) := match tgR (wipeR r own) tg d with
  | some r1 => bnd (evC cs r1 q lv s) fun b s2 => if b then bnd (noex (evE cs r1 e lv s2)) fun y s3 => .ok (some y) s3 else .ok none s2
  | none => .bad
def addO (o : Option D) (r : List D) : List D := match o with
  | some y => y :: r
  | none => r
/-- a new list, not known yet -/
def rdF (K : PySem.W.Frag) (g : Ga) (cs : Cs) (lv : Nat) (Wx : WX) (e : E) : TE := fun σ H Q => ∃ W s r, Ok K g W s H ∧ EnvR K g W H r σ ∧ Post K g W H (evE cs r e lv s) (fun d _ W' H' => ∀ ds p vs, d = .lst ds → H' p = some (.lst vs) → RepL K g W' ds vs → W'.F p = none → p ∉ W'.B → Fr H p → Q (.ref p) H') (fun c dd H' => Wx c dd σ H')
theorem rdF_of {e : E} {σ : L2.St} {H : Hp} {Q : VK} (h : rdE X.K g cs lv Wx e σ H Q) : rdF X.K g cs lv Wx e σ H Q := by
  obtain ⟨W, s, r, ok, en, h⟩ := h
  refine ⟨W, s, r, ok, en, ?_⟩
  revert h
  cases evE cs r e lv s with
  | ok d s1 =>
    intro h W' H' x1 ok1 ds p vs ed hp rp hF hB h0
    subst ed
    refine h (W'.frz p (.lst vs)) H' ⟨x1.le.trans (.frz W' hF), fun a o ha => ?_, x1.newB, x1.keep, x1.there⟩ (ok1.freeze hp hF hB) _ (rep_lst hF rp)
    by_cases z : a = p
    · rw [z]; exact .inr h0
    · have ha' : upd W'.F p (.lst vs) a = some o := ha
      rw [upd_ne z] at ha'
      exact x1.newF a o ha'
  | ex x s1 => exact fun h => h
  | bad => exact fun h => h
theorem pe_fresh {e : E} {x : Expr} (h : PE X x (rdF X.K g cs lv Wx e)) : PE X x (rdE X.K g cs lv Wx e) := PE.of h fun σ H Q q => rdF_of q
theorem own_ext {W W' : Wd} {H H' : Hp} {a : Addr} {vs : List V} (x : Ext W H W' H') (h1 : H a = some (.lst vs)) (h2 : W.F a = none) (h3 : a ∉ W.B) : H' a = some (.lst vs) ∧ W'.F a = none ∧ a ∉ W'.B := by
  refine ⟨x.keep a _ h1 h3 (fun ps z => nomatch z), ?_, fun z => (x.newB a z).elim h3 fun q => q.no h1 (fun ps z => nomatch z)⟩
  cases q : W'.F a with
  | none => rfl
  | some o => exact ((x.newF a o q).elim (fun z => by rw [h2] at z; cases z) fun z => (z.no h1 (fun ps z => nomatch z)).elim)
theorem tabs_upd {T : List (Addr × Str)} {H : Hp} {a : Addr} {vs us : List V} (t : LamX.Tabs T H) (h : H a = some (.lst vs)) : LamX.Tabs T (upd H a (.lst us)) := fun p hp => by
  obtain ⟨ps, h1, h2, h3⟩ := t p hp
  refine ⟨ps, by rw [upd_ne (ne_of h1 h (fun z => nomatch z))]; exact h1, h2, fun pos cv hc => ?_⟩
  obtain ⟨q, e, hq⟩ := h3 pos cv hc
  exact ⟨q, e, by rw [upd_ne (ne_of hq h (fun z => by unfold LamX.CodeO at z; cases z))]; exact hq⟩
/-- a list that no one else knows is changed -/
theorem Ok.upd {W : Wd} {s : S} {H : Hp} (ok : Ok X.K g W s H) {a : Addr} {vs us : List V} (h1 : H a = some (.lst vs)) (h2 : W.F a = none) (h3 : a ∉ W.B) : Ok X.K g W s (L2.upd H a (.lst us)) where
  sub := fun b o h => by rw [upd_ne (fun z => by rw [z, h2] at h; cases h)]; exact ok.sub b o h
  len := ok.len
  nd := ok.nd
  nf := ok.nf
  box := fun k b x e1 e2 => (ok.box k b x e1 e2).ext (.refl W) fun ws e => by rw [upd_ne (fun z => h3 (by rw [← z]; exact List.mem_of_getElem? e1))]; exact e
  tab := tabs_upd ok.tab h1
  nt := ok.nt
theorem Ext.upd {W W' : Wd} {H H' : Hp} {a : Addr} {o : HO} (x : Ext W H W' H') (h : Fr H a) : Ext W H W' (L2.upd H' a o) where
  le := x.le
  newF := x.newF
  newB := x.newB
  keep := fun b u hb n t => by rw [upd_ne (fun z => h.no (by rw [← z]; exact hb) t)]; exact x.keep b u hb n t
  there := fun b hb => by
    by_cases e : b = a
    · rw [e]; exact h
    · exact x.there b fun u hu => hb u (by rw [upd_ne e]; exact hu)
theorem evE_lc {own : List Nat} {tg : Tg} {it : It} {q : Eo} {e : E} {r : Rho} {s : S} : evE cs r (.lc own tg it q e) lv s = bnd (evI cs r it lv s) fun xs s1 => if xs.length ≤ big then bnd (lcLoop (lcF cs lv r own tg q e) xs s1) fun ys s2 => .ok (.lst ys) s2 else .bad := rfl
theorem lc_read {own : List Nat} {tg : Tg} {it : It} {q : Eo} {e : E} {σ : L2.St} {H : Hp} {Q : VK} (hsl : ∀ j ∈ tg.slots, j ∈ own) (h : rdF X.K g cs lv Wx (.lc own tg it q e) σ H Q) :
    tLc (rdI X.K g cs lv Wx it) (rdG X.K g tg) (rdC X.K g cs lv q) (rdE X.K g cs lv WF e) own σ H Q := by
  obtain ⟨W, s, r, ok, en, h⟩ := h
  rw [evE_lc] at h
  refine ⟨W, s, r, ok, en, (Post.bnd h).mono fun ds s1 W1 H1 x1 ok1 h1 J hJ L hL => ?_⟩
  obtain ⟨G, Y, w, hG, hY⟩ := hJ
  by_cases hb : ds.length ≤ big
  case neg => rw [if_neg hb] at h1; exact h1.elim
  rw [if_pos hb] at h1
  have hL0 : Fr H L := x1.there L (.of hL)
  have nB : L ∉ W1.B := fun z => by
    obtain ⟨o, e⟩ := ok1.boxAt z
    rw [hL] at e; cases e
  have h2 := (Post.bnd h1).mono (k' := fun ys s2 W2 H2 => ∀ vs, H2 L = some (.lst vs) → RepL X.K g W2 ys vs → W2.F L = none → L ∉ W2.B → Q (.ref L) H2) fun ys s2 W2 H2 x2 ok2 h2 vs e1 e2 e3 e4 =>
    Post.now h2 ok2 ys L vs rfl e1 e2 e3 e4 hL0
  refine lc_it w (fun i H2 => ∃ W2 s2 acc dacc, Ext W1 H1 W2 H2 ∧ Ok X.K g W2 s2 H2 ∧ H2 L = some (.lst acc) ∧ W2.F L = none ∧ L ∉ W2.B ∧ RepL X.K g W2 dacc acc ∧ acc.length ≤ i ∧
    Post X.K g W1 H1 (lcLoop (lcF cs lv r own tg q e) (ds.drop i) s2) (fun y s' W' H' => ∀ vs, H' L = some (.lst vs) → RepL X.K g W' (dacc ++ y) vs → W'.F L = none → L ∉ W'.B → Q (.ref L) H') (fun c dd H' => Wx c dd σ H'))
    ⟨W1, s1, [], [], .alloc0 W1 hL, ok1.alloc0 hL, upd_same, ok1.unF hL, nB, rfl, Nat.le_refl _, h2⟩
    (fun i H2 _ ⟨W2, s2, acc, dacc, x2, ok2, _⟩ => hG W2 s2 H2 x2.le ok2) ?_ ?_
  · rintro i x H2 H3 hi ⟨W2, s2, acc, dacc, x2, ok2, a1, a2, a3, a4, a5, hP⟩ hy
    obtain ⟨W3, x3, ok3, rd⟩ := hY i ds[i] W2 s2 H2 x H3 (List.getElem?_eq_getElem hi) x2.le ok2 hy
    obtain ⟨b1, b2, b3⟩ := own_ext x3 a1 a2 a3
    rw [List.drop_eq_getElem_cons hi] at hP
    have hP : Post X.K g W1 H1 (bnd (lcF cs lv r own tg q e ds[i] s2) fun o s3 => bnd (lcLoop (lcF cs lv r own tg q e) (ds.drop (i + 1)) s3) fun y s4 => .ok (addO o y) s4) (fun y s' W' H' => ∀ vs, H' L = some (.lst vs) → RepL X.K g W' (dacc ++ y) vs → W'.F L = none → L ∉ W'.B → Q (.ref L) H') (fun c dd H' => Wx c dd σ H') := hP
    unfold lcF at hP
    split at hP
    case h_2 => exact hP.elim
    rename_i r1 hr1
    have en3 : EnvR X.K g W3 H3 r σ := en.ext (x1.trans (x2.trans x3))
    refine ⟨W3, s2, wipeR r own, ds[i], r1, ok3, en3.wipe own, rd, hr1, fun σ' en' o => ⟨wipe_only o hsl, W3, s2, r1, ok3, en', ?_⟩⟩
    cases hC : evC cs r1 q lv s2 with
    | bad => rw [hC] at hP; exact hP.elim
    | ex x s3 =>
      exfalso
      unfold evC at hC
      cases q with
      | no => cases hC
      | so a =>
        simp only at hC
        cases h4 : evE cs r1 a lv s2 with
        | ok y s4 =>
          rw [h4] at hC
          have hC : opt (chkB y) s4 = .ex x s3 := hC
          cases h5 : chkB y with
          | none => rw [h5] at hC; cases hC
          | some b => rw [h5] at hC; cases hC
        | ex z s4 => rw [h4] at hC; cases hC
        | bad => rw [h4] at hC; cases hC
    | ok b s3 =>
      rw [hC, bnd_ok] at hP
      intro W4 H4 x4 ok4
      obtain ⟨c1, c2, c3⟩ := own_ext x4 b1 b2 b3
      have x14 := x2.trans (x3.trans x4)
      cases b with
      | false =>
        rw [if_neg Bool.false_ne_true, bnd_ok] at hP
        rw [if_neg Bool.false_ne_true]
        refine ⟨W4, s3, acc, dacc, x14, ok4, c1, c2, c3, a4.mono (x3.le.trans x4.le), Nat.le_succ_of_le a5, ?_⟩
        exact (Post.bnd hP).mono fun y s5 W5 H5 x5 ok5 h5 => Post.now h5 ok5
      | true =>
        rw [if_pos rfl] at hP
        rw [if_pos rfl]
        refine ⟨W4, s3, r1, ok4, en'.ext x4, ?_⟩
        cases hE : evE cs r1 e lv s3 with
        | bad => rw [hE] at hP; exact hP.elim
        | ex x s5 => rw [hE] at hP; exact hP.elim
        | ok y s5 =>
          rw [hE] at hP
          have hP : Post X.K g W1 H1 (bnd (lcLoop (lcF cs lv r own tg q e) (ds.drop (i + 1)) s5) fun z s4 => .ok (y :: z) s4) (fun y s' W' H' => ∀ vs, H' L = some (.lst vs) → RepL X.K g W' (dacc ++ y) vs → W'.F L = none → L ∉ W'.B → Q (.ref L) H') (fun c dd H' => Wx c dd σ H') := hP
          intro W5 H5 x5 ok5 v rv
          obtain ⟨d1, d2, d3⟩ := own_ext x5 c1 c2 c3
          refine ⟨acc, d1, ?_, W5, s5, acc ++ [v], dacc ++ [y], (x14.trans x5).upd (.of hL), ok5.upd d1 d2 d3, upd_same, d2, d3, (a4.mono (x3.le.trans (x4.le.trans x5.le))).app (.one rv), by rw [List.length_append, List.length_singleton]; omega, ?_⟩
          · have z := small hb
            omega
          · refine (Post.bnd hP).mono fun z s6 W6 H6 x6 ok6 h6 vs e1 e2 => ?_
            refine Post.now h6 ok6 vs e1 ?_
            rw [List.append_assoc] at e2
            exact e2
  · rintro H2 ⟨W2, s2, acc, dacc, x2, ok2, a1, a2, a3, a4, a5, hP⟩
    rw [List.drop_length] at hP
    exact hP W2 H2 x2 ok2 acc a1 (by rw [List.append_nil]; exact a4) a2 a3
theorem noSet_ok {x : Expr} {env : Env} (h : noSet x = true) (v : Value) : foldedSetIterable x env v = pure v := by
  cases x <;> first | rfl | cases h
theorem own_map {N : List Str} : ∀ {own : List Nat}, (∀ i ∈ own, i < N.length) → (own.filterMap fun i => N[i]?.map fun x => (x, i)).map (·.2) = own
  | [], _ => rfl
  | i :: own, h => by
    have hi := h i (.head _)
    rw [List.filterMap_cons, List.getElem?_eq_getElem hi]
    show i :: _ = _
    rw [own_map fun j hj => h j (.tail _ hj)]
theorem takesN {X : Cx} : L2N.Takes X WF := fun _ _ x => by
  obtain ⟨_, _, _, _, _, _, _, _, _, _, _, _, _, _, _, _, z⟩ := x
  exact z.elim
/-- where a comprehension's block stands -/
theorem XOk.blk (xo : XOk g X c Wx lv) (sc : Scope) (s : Shared) (H : Hp) (C : Addr) (cls : List (Str × Addr)) (fp : List Addr) : XOk g (X.blk s H sc (compEnvC sc cls C X.env) fp) ⟨c.N, relS sc c.sc, some sc, false⟩ WF lv where
  N := xo.N
  nd := xo.nd
  sc := by
    show relabel sc X.env = _
    rw [← xo.sc]; rfl
  fn := fun x h => by
    have h' : decide (sc.names.lookup x = some .cell) = true := h
    show (sc.names.lookup x == some .cell) = true
    rw [of_decide_eq_true h']; rfl
  calm := xo.calm
  room := xo.room
  tk := takesN
  lam := fun h => by cases h
theorem sn_lcF (xo : XOk g X c Wx lv) {own : List Nat} {tg : Tg} {it : It} {q : Eo} {e : E} {elt k iter : Expr} {ifs : List Expr} {sc : Scope} {pos : Pos} (hb : blkC c.N c.sc sc (own.filterMap fun i => c.N[i]?.map fun x => (x, i)) = true) (ho : ∀ i ∈ own, i < c.N.length) (hsl : ∀ j ∈ tg.slots, j ∈ own)
    (hs : noSet iter = true) (hi : PI X k iter (rdI X.K g cs lv Wx it)) (hg : tgB ⟨c.N, relS sc c.sc, some sc, false⟩ tg k = true) (ht : ∀ (s : Shared) (H : Hp) (C : Addr) (cls : List (Str × Addr)) (fp : List Addr), PTs (X.blk s H sc (compEnvC sc cls C X.env) fp) ifs (rdC X.K g cs lv q))
    (he : ∀ (s : Shared) (H : Hp) (C : Addr) (cls : List (Str × Addr)) (fp : List Addr), PE (X.blk s H sc (compEnvC sc cls C X.env) fp) elt (rdE X.K g cs lv WF e)) : PE X (.ListComp elt [⟨k, iter, ifs, 0⟩] sc pos) (rdF X.K g cs lv Wx (.lc own tg it q e)) := by
  have nd : X.N.Nodup := by rw [xo.N]; exact xo.nd
  have ok : BlkOk X.N X.env.scope sc (own.filterMap fun i => c.N[i]?.map fun x => (x, i)) := by rw [xo.N, xo.sc]; exact blkOk_by hb
  refine PE.of (pe_lc xo.calm nd hi ok (g := rdG X.K g tg) (fun s H C cls fp => (show PG (X.blk s H sc (compEnvC sc cls C X.env) fp) k (rdG X.K g tg) from sn_tg (g := g) (xo.blk sc s H C cls fp) hg)) ht he (noSet_ok hs)) fun σ H Q h => ?_
  rw [own_map ho]
  exact lc_read hsl h
end
end Tw
end
section
/-! The order of ints and tuples, sorting: plain. -/
namespace Tw
open PySem
mutual
theorem cmpT_swap : ∀ x y : D, cmpT y x = (cmpT x y).swap
  | .int i, .int j => by
    unfold cmpT
    by_cases h : i < j
    · rw [if_pos h, if_neg (by omega), if_pos h]; rfl
    · by_cases h' : j < i
      · rw [if_pos h', if_neg h, if_pos h']; rfl
      · rw [if_neg h, if_neg h', if_neg h', if_neg h]; rfl
  | .tup xs, .tup ys => by unfold cmpT; exact cmpTL_swap xs ys
  | .int _, .tup _ => rfl
  | .tup _, .int _ => rfl
  | .int _, .non => rfl | .int _, .bl _ => rfl | .int _, .str _ => rfl | .int _, .lst _ => rfl | .int _, .box _ => rfl | .int _, .fn _ => rfl | .int _, .xc _ => rfl
  | .tup _, .non => rfl | .tup _, .bl _ => rfl | .tup _, .str _ => rfl | .tup _, .lst _ => rfl | .tup _, .box _ => rfl | .tup _, .fn _ => rfl | .tup _, .xc _ => rfl
  | .non, y => by cases y <;> rfl
  | .bl _, y => by cases y <;> rfl
  | .str _, y => by cases y <;> rfl
  | .lst _, y => by cases y <;> rfl
  | .box _, y => by cases y <;> rfl
  | .fn _, y => by cases y <;> rfl
  | .xc _, y => by cases y <;> rfl
theorem cmpTL_swap : ∀ xs ys : List D, cmpTL ys xs = (cmpTL xs ys).swap
  | [], [] => rfl
  | [], _ :: _ => rfl
  | _ :: _, [] => rfl
  | x :: xs, y :: ys => by
    unfold cmpTL
    rw [cmpT_swap x y]
    cases cmpT x y with
    | lt => rfl
    | gt => rfl
    | eq => exact cmpTL_swap xs ys
end
mutual
theorem cmpT_refl : ∀ x : D, cmpT x x = .eq
  | .int i => by unfold cmpT; rw [if_neg (by omega), if_neg (by omega)]
  | .tup xs => by unfold cmpT; exact cmpTL_refl xs
  | .non => rfl | .bl _ => rfl | .str _ => rfl | .lst _ => rfl | .box _ => rfl | .fn _ => rfl | .xc _ => rfl
theorem cmpTL_refl : ∀ xs : List D, cmpTL xs xs = .eq
  | [] => rfl
  | x :: xs => by unfold cmpTL; rw [cmpT_refl x]; exact cmpTL_refl xs
end
theorem oa {a b : Bool} (h : (a && b) = true) : a = true ∧ b = true := Bool.and_eq_true_iff.mp h
mutual
theorem cmpT_eq : ∀ x y : D, ordD x = true → ordD y = true → cmpT x y = .eq → x = y
  | .int i, .int j, _, _, h => by
    unfold cmpT at h
    by_cases h1 : i < j
    · rw [if_pos h1] at h; cases h
    · by_cases h2 : j < i
      · rw [if_neg h1, if_pos h2] at h; cases h
      · rw [show i = j by omega]
  | .tup xs, .tup ys, h1, h2, h => by
    unfold cmpT at h
    unfold ordD at h1 h2
    rw [cmpTL_eq xs ys h1 h2 h]
  | .int _, .tup _, _, _, h => by cases h
  | .tup _, .int _, _, _, h => by cases h
  | .int _, .non, _, h, _ => by cases h
  | .int _, .bl _, _, h, _ => by cases h
  | .int _, .str _, _, h, _ => by cases h
  | .int _, .lst _, _, h, _ => by cases h
  | .int _, .box _, _, h, _ => by cases h
  | .int _, .fn _, _, h, _ => by cases h
  | .int _, .xc _, _, h, _ => by cases h
  | .tup _, .non, _, h, _ => by cases h
  | .tup _, .bl _, _, h, _ => by cases h
  | .tup _, .str _, _, h, _ => by cases h
  | .tup _, .lst _, _, h, _ => by cases h
  | .tup _, .box _, _, h, _ => by cases h
  | .tup _, .fn _, _, h, _ => by cases h
  | .tup _, .xc _, _, h, _ => by cases h
  | .non, _, h, _, _ => by cases h
  | .bl _, _, h, _, _ => by cases h
  | .str _, _, h, _, _ => by cases h
  | .lst _, _, h, _, _ => by cases h
  | .box _, _, h, _, _ => by cases h
  | .fn _, _, h, _, _ => by cases h
  | .xc _, _, h, _, _ => by cases h
theorem cmpTL_eq : ∀ xs ys : List D, ordL xs = true → ordL ys = true → cmpTL xs ys = .eq → xs = ys
  | [], [], _, _, _ => rfl
  | [], _ :: _, _, _, h => by cases h
  | _ :: _, [], _, _, h => by cases h
  | x :: xs, y :: ys, h1, h2, h => by
    unfold cmpTL at h
    unfold ordL at h1 h2
    obtain ⟨a1, a2⟩ := oa h1
    obtain ⟨b1, b2⟩ := oa h2
    cases e : cmpT x y with
    | lt => rw [e] at h; cases h
    | gt => rw [e] at h; cases h
    | eq =>
      rw [e] at h
      rw [cmpT_eq x y a1 b1 e, cmpTL_eq xs ys a2 b2 h]
end
mutual
theorem cmpT_tr : ∀ x y z : D, ordD x = true → ordD y = true → ordD z = true → cmpT x y = .lt → cmpT y z = .lt → cmpT x z = .lt
  | .int i, y, z, _, hy, hz, h1, h2 => by
    cases y with
    | int j =>
      cases z with
      | int k =>
        unfold cmpT at h1 h2 ⊢
        split at h1
        · split at h2
          · rw [if_pos (by omega)]
          · split at h2 <;> cases h2
        · split at h1 <;> cases h1
      | tup zs => rfl
      | _ => cases hz
    | tup ys =>
      cases z with
      | int k => cases h2
      | tup zs => rfl
      | _ => cases hz
    | _ => cases hy
  | .tup xs, y, z, hx, hy, hz, h1, h2 => by
    cases y with
    | int j => cases h1
    | tup ys =>
      cases z with
      | int k => cases h2
      | tup zs =>
        unfold cmpT at h1 h2 ⊢
        unfold ordD at hx hy hz
        exact cmpTL_tr xs ys zs hx hy hz h1 h2
      | _ => cases hz
    | _ => cases hy
  | .non, _, _, h, _, _, _, _ => by cases h
  | .bl _, _, _, h, _, _, _, _ => by cases h
  | .str _, _, _, h, _, _, _, _ => by cases h
  | .lst _, _, _, h, _, _, _, _ => by cases h
  | .box _, _, _, h, _, _, _, _ => by cases h
  | .fn _, _, _, h, _, _, _, _ => by cases h
  | .xc _, _, _, h, _, _, _, _ => by cases h
theorem cmpTL_tr : ∀ xs ys zs : List D, ordL xs = true → ordL ys = true → ordL zs = true → cmpTL xs ys = .lt → cmpTL ys zs = .lt → cmpTL xs zs = .lt
  | [], ys, zs, _, _, _, h1, h2 => by
    cases ys with
    | nil => cases h1
    | cons y ys =>
      cases zs with
      | nil => cases h2
      | cons z zs => rfl
  | x :: xs, ys, zs, hx, hy, hz, h1, h2 => by
    cases ys with
    | nil => cases h1
    | cons y ys =>
      cases zs with
      | nil => cases h2
      | cons z zs =>
        unfold ordL at hx hy hz
        obtain ⟨a1, a2⟩ := oa hx
        obtain ⟨b1, b2⟩ := oa hy
        obtain ⟨c1, c2⟩ := oa hz
        unfold cmpTL at h1 h2 ⊢
        cases e : cmpT x y with
        | gt => rw [e] at h1; cases h1
        | eq =>
          have e' := cmpT_eq x y a1 b1 e
          rw [e] at h1
          subst e'
          cases e2 : cmpT x z with
          | lt => rfl
          | gt => rw [e2] at h2; cases h2
          | eq =>
            rw [e2] at h2
            exact cmpTL_tr xs ys zs a2 b2 c2 h1 h2
        | lt =>
          cases e2 : cmpT y z with
          | gt => rw [e2] at h2; cases h2
          | lt => rw [cmpT_tr x y z a1 b1 c1 e e2]
          | eq =>
            have e' := cmpT_eq y z b1 c1 e2
            subst e'
            rw [e]
end
theorem ltB_tr {x y z : D} (a : ordD x = true) (b : ordD y = true) (c : ordD z = true) (h1 : ltB x y = true) (h2 : ltB y z = true) : ltB x z = true :=
  decide_eq_true (cmpT_tr x y z a b c (of_decide_eq_true h1) (of_decide_eq_true h2))
theorem ltB_as {x y : D} (h1 : ltB x y = true) : ltB y x = false := by
  unfold ltB
  rw [cmpT_swap x y, of_decide_eq_true h1]; rfl
theorem ltB_ir (x : D) : ltB x x = false := by unfold ltB; rw [cmpT_refl]; rfl
theorem ltB_eq {x y : D} (a : ordD x = true) (b : ordD y = true) (h1 : ltB x y = false) (h2 : ltB y x = false) : x = y := by
  unfold ltB at h1 h2
  rw [cmpT_swap x y] at h2
  cases e : cmpT x y with
  | lt => rw [e] at h1; cases h1
  | gt => rw [e] at h2; cases h2
  | eq => exact cmpT_eq x y a b e
/-! ### the evaluator's comparisons of such things -/
mutual
theorem eqv_ord : ∀ (x y : D) (p q : PyData), ordD x = true → ordD y = true → x.py = some p → y.py = some q → PyData.eqv p q = decide (cmpT x y = .eq)
  | .int i, y, p, q, _, hy, e1, e2 => by
    cases e1
    cases y with
    | int j =>
      cases e2
      unfold PyData.eqv cmpT
      by_cases h1 : i < j
      · rw [if_pos h1]
        rw [show (i == j) = false from beq_eq_false_iff_ne.mpr (by omega)]; rfl
      · by_cases h2 : j < i
        · rw [if_neg h1, if_pos h2]
          rw [show (i == j) = false from beq_eq_false_iff_ne.mpr (by omega)]; rfl
        · rw [if_neg h1, if_neg h2, show i = j by omega, beq_self_eq_true]; rfl
    | tup ys =>
      unfold D.py at e2
      obtain ⟨ps, _, e⟩ := Option.map_eq_some_iff.mp e2
      subst e
      rfl
    | _ => cases hy
  | .tup xs, y, p, q, hx, hy, e1, e2 => by
    unfold D.py at e1
    obtain ⟨ps, e3, e⟩ := Option.map_eq_some_iff.mp e1
    subst e
    cases y with
    | int j => cases e2; rfl
    | tup ys =>
      unfold D.py at e2
      obtain ⟨qs, e4, e⟩ := Option.map_eq_some_iff.mp e2
      subst e
      unfold ordD at hx hy
      unfold PyData.eqv cmpT
      exact eqv_ordL xs ys ps qs hx hy e3 e4
    | _ => cases hy
  | .non, _, _, _, h, _, _, _ => by cases h
  | .bl _, _, _, _, h, _, _, _ => by cases h
  | .str _, _, _, _, h, _, _, _ => by cases h
  | .lst _, _, _, _, h, _, _, _ => by cases h
  | .box _, _, _, _, h, _, _, _ => by cases h
  | .fn _, _, _, _, h, _, _, _ => by cases h
  | .xc _, _, _, _, h, _, _, _ => by cases h
theorem eqv_ordL : ∀ (xs ys : List D) (ps qs : List PyData), ordL xs = true → ordL ys = true → pyAll xs = some ps → pyAll ys = some qs → PyData.eqvAll ps qs = decide (cmpTL xs ys = .eq)
  | [], ys, ps, qs, _, hy, e1, e2 => by
    cases e1
    cases ys with
    | nil => cases e2; rfl
    | cons y ys =>
      unfold pyAll at e2
      split at e2 <;> cases e2
      rfl
  | x :: xs, ys, ps, qs, hx, hy, e1, e2 => by
    unfold pyAll at e1
    split at e1 <;> cases e1
    rename_i p ps f1 f2
    cases ys with
    | nil => cases e2; rfl
    | cons y ys =>
      unfold pyAll at e2
      split at e2 <;> cases e2
      rename_i q qs f3 f4
      unfold ordL at hx hy
      obtain ⟨a1, a2⟩ := oa hx
      obtain ⟨b1, b2⟩ := oa hy
      unfold PyData.eqvAll cmpTL
      rw [eqv_ord x y p q a1 b1 f1 f3, eqv_ordL xs ys ps qs a2 b2 f2 f4]
      cases cmpT x y <;> simp
end
theorem eqD_ord {x y : D} {b : Bool} (hx : ordD x = true) (hy : ordD y = true) (h : eqD x y = some b) : b = decide (cmpT x y = .eq) := by
  unfold eqD at h
  split at h
  · rename_i p q e1 e2
    split at h
    · cases h; exact eqv_ord x y p q hx hy e1 e2
    · cases h
  · cases h
mutual
theorem ltD_ord : ∀ (x y : D) (b : Bool), ordD x = true → ordD y = true → ltG true x y = some b → b = ltB x y
  | .int i, y, b, _, hy, h => by
    cases y with
    | int j =>
      unfold ltG at h
      cases h
      unfold ltB cmpT
      by_cases h1 : i < j
      · rw [if_pos h1]; simp [h1]
      · rw [if_neg h1]; by_cases h2 : j < i <;> simp [h1, h2]
    | tup ys => unfold ltG at h; cases h
    | _ => cases hy
  | .tup xs, y, b, hx, hy, h => by
    cases y with
    | int j => unfold ltG at h; cases h
    | tup ys =>
      unfold ltG at h
      unfold ordD at hx hy
      unfold ltB cmpT
      exact ltL_ord xs ys b hx hy h
    | _ => cases hy
  | .non, _, _, h, _, _ => by cases h
  | .bl _, _, _, h, _, _ => by cases h
  | .str _, _, _, h, _, _ => by cases h
  | .lst _, _, _, h, _, _ => by cases h
  | .box _, _, _, h, _, _ => by cases h
  | .fn _, _, _, h, _, _ => by cases h
  | .xc _, _, _, h, _, _ => by cases h
theorem ltL_ord : ∀ (xs ys : List D) (b : Bool), ordL xs = true → ordL ys = true → ltL true xs ys = some b → b = decide (cmpTL xs ys = .lt)
  | [], ys, b, _, _, h => by
    cases ys with
    | nil => unfold ltL at h; cases h; rfl
    | cons y ys => unfold ltL at h; cases h; rfl
  | x :: xs, ys, b, hx, hy, h => by
    cases ys with
    | nil => unfold ltL at h; cases h; rfl
    | cons y ys =>
      unfold ordL at hx hy
      obtain ⟨a1, a2⟩ := oa hx
      obtain ⟨b1, b2⟩ := oa hy
      unfold ltL at h
      split at h
      · rename_i he
        have e := eqD_ord a1 b1 he
        have e := of_decide_eq_true e.symm
        unfold cmpTL
        rw [e]
        exact ltL_ord xs ys b a2 b2 h
      · rename_i he
        have e := eqD_ord a1 b1 he
        split at h
        · rename_i hl hr
          cases h
          have e2 := ltD_ord x y _ a1 b1 hl
          rw [e2]
          unfold ltB cmpTL
          cases f : cmpT x y with
          | lt => rfl
          | gt => rfl
          | eq => rw [f] at e; cases e
        · cases h
      · cases h
end
/-! ### sorting -/
theorem insD_perm (x : D) : ∀ ys : List D, (insD x ys).Perm (x :: ys)
  | [] => .refl _
  | y :: ys => by
    unfold insD
    split
    · exact ((insD_perm x ys).cons y).trans (.swap x y ys)
    · exact .refl _
theorem sortD_perm : ∀ xs : List D, (sortD xs).Perm xs
  | [] => .refl _
  | x :: xs => (insD_perm x (sortD xs)).trans ((sortD_perm xs).cons x)
abbrev Srt (l : List D) : Prop := l.Pairwise fun x y => ltB y x = false
theorem insD_srt {x : D} : ∀ {ys : List D}, ordD x = true → (∀ y ∈ ys, ordD y = true) → Srt ys → Srt (insD x ys)
  | [], _, _, _ => List.pairwise_singleton _ _
  | y :: ys, hx, hy, h => by
    obtain ⟨h1, h2⟩ := List.pairwise_cons.mp h
    unfold insD
    split
    · rename_i e
      refine List.pairwise_cons.mpr ⟨fun z hz => ?_, insD_srt hx (fun z hz => hy z (.tail _ hz)) h2⟩
      rcases List.mem_cons.mp ((insD_perm x ys).mem_iff.mp hz) with q | q
      · rw [q]; exact ltB_as e
      · exact h1 z q
    · rename_i e
      have e : ltB y x = false := by simpa using e
      refine List.pairwise_cons.mpr ⟨fun z hz => ?_, h⟩
      rcases List.mem_cons.mp hz with q | q
      · rw [q]; exact e
      · cases f : ltB z x with
        | false => rfl
        | true =>
          have hz' := hy z (.tail _ q)
          have hy' := hy y (.head _)
          have g := h1 z q
          cases k : ltB y z with
          | true => rw [ltB_tr hy' hz' hx k f] at e; cases e
          | false =>
            have := ltB_eq hy' hz' k g
            rw [this] at e; rw [e] at f; cases f
theorem sortD_srt : ∀ {xs : List D}, (∀ x ∈ xs, ordD x = true) → Srt (sortD xs)
  | [], _ => .nil
  | x :: xs, h => insD_srt (h x (.head _)) (fun y hy => h y (.tail _ ((sortD_perm xs).mem_iff.mp hy))) (sortD_srt fun y hy => h y (.tail _ hy))
theorem srt_uniq : ∀ {l m : List D}, (∀ x ∈ l, ordD x = true) → l.Perm m → Srt l → Srt m → l = m
  | [], m, _, p, _, _ => by rw [List.nil_perm.mp p]
  | x :: l, [], _, p, _, _ => by have := p.length_eq; simp at this
  | x :: l, y :: m, ho, p, h1, h2 => by
    obtain ⟨a1, a2⟩ := List.pairwise_cons.mp h1
    obtain ⟨b1, b2⟩ := List.pairwise_cons.mp h2
    have hy : y ∈ x :: l := p.mem_iff.mpr (.head _)
    have hx : x ∈ y :: m := p.mem_iff.mp (.head _)
    have e : x = y := by
      rcases List.mem_cons.mp hy with q | q
      · exact q.symm
      · rcases List.mem_cons.mp hx with r | r
        · exact r
        · exact ltB_eq (ho x (.head _)) (ho y hy) (b1 x r) (a1 y q)
    subst e
    rw [srt_uniq (fun z hz => ho z (.tail _ hz)) (List.perm_cons x |>.mp p) a2 b2]
/-! ### rows, each once -/
theorem code_inj {B : Int} : ∀ {k q : List Int}, k.length = q.length → TS.Bd B k → TS.Bd B q → TS.code B k = TS.code B q → k = q
  | [], [], _, _, _, _ => rfl
  | [], _ :: _, h, _, _, _ => by cases h
  | _ :: _, [], h, _, _, _ => by cases h
  | d :: r, e :: q, hl, h1, h2, h => by
    have hl' : r.length = q.length := by simpa using hl
    rcases Int.lt_trichotomy d e with z | z | z
    · have := TS.code_lt hl' h1.tail h2.tail z
      omega
    · subst z
      have a1 := @TS.code_same B d r q hl'
      have a2 := @TS.code_same B d q r hl'.symm
      rw [code_inj hl' h1.tail h2.tail (by
        have n1 : ¬ TS.code B r < TS.code B q := fun z => by have := a1.mpr z; omega
        have n2 : ¬ TS.code B q < TS.code B r := fun z => by have := a2.mpr z; omega
        omega)]
    · have := TS.code_lt hl'.symm h2.tail h1.tail z
      omega
/-- rows of one length, of small ints -/
def OkKs (n : Nat) (ks : List (List Int)) : Prop := ∀ k ∈ ks, k.length = n ∧ TS.Bd 64 k
theorem insU_mem {k x : List Int} : ∀ {ks : List (List Int)}, x ∈ insU k ks ↔ x = k ∨ x ∈ ks
  | [] => by simp [insU]
  | y :: ys => by
    unfold insU
    split
    · rename_i e; subst e; simp
    · split
      · simp
      · rw [List.mem_cons, insU_mem, List.mem_cons]
        constructor
        · rintro (h | h | h)
          · exact .inr (.inl h)
          · exact .inl h
          · exact .inr (.inr h)
        · rintro (h | h | h)
          · exact .inr (.inl h)
          · exact .inl h
          · exact .inr (.inr h)
theorem sortU_mem {x : List Int} : ∀ {ks : List (List Int)}, x ∈ sortU ks ↔ x ∈ ks
  | [] => by simp [sortU]
  | k :: ks => by
    show x ∈ insU k (sortU ks) ↔ _
    rw [insU_mem, sortU_mem, List.mem_cons]
abbrev SrU (l : List (List Int)) : Prop := l.Pairwise fun x y => TS.code 64 x < TS.code 64 y
theorem insU_sr {n : Nat} {k : List Int} : ∀ {ks : List (List Int)}, OkKs n (k :: ks) → SrU ks → SrU (insU k ks)
  | [], _, _ => List.pairwise_singleton _ _
  | y :: ys, ho, h => by
    obtain ⟨h1, h2⟩ := List.pairwise_cons.mp h
    unfold insU
    split
    · exact h
    · rename_i hne
      split
      · rename_i hlt
        refine List.pairwise_cons.mpr ⟨fun z hz => ?_, h⟩
        rcases List.mem_cons.mp hz with e | e
        · rw [e]; exact hlt
        · have := h1 z e; omega
      · rename_i hlt
        have gt : TS.code 64 y < TS.code 64 k := by
          obtain ⟨a1, a2⟩ := ho k (.head _)
          obtain ⟨b1, b2⟩ := ho y (.tail _ (.head _))
          have : TS.code 64 k ≠ TS.code 64 y := fun e => hne (code_inj (by omega) a2 b2 e)
          omega
        refine List.pairwise_cons.mpr ⟨fun z hz => ?_, insU_sr (fun x hx => ho x ?_) h2⟩
        · rcases insU_mem.mp hz with e | e
          · rw [e]; exact gt
          · exact h1 z e
        · rcases List.mem_cons.mp hx with e | e
          · rw [e]; exact .head _
          · exact .tail _ (.tail _ e)
theorem sortU_sr {n : Nat} : ∀ {ks : List (List Int)}, OkKs n ks → SrU (sortU ks)
  | [], _ => .nil
  | k :: ks, h => insU_sr (n := n) (fun x hx => by
      rcases List.mem_cons.mp hx with e | e
      · rw [e]; exact h k (.head _)
      · exact h x (.tail _ (sortU_mem.mp e))) (sortU_sr fun x hx => h x (.tail _ hx))
theorem srU_uniq : ∀ {l m : List (List Int)}, SrU l → SrU m → (∀ x, x ∈ l ↔ x ∈ m) → l = m
  | [], [], _, _, _ => rfl
  | [], y :: m, _, _, h => by have := (h y).mpr (.head _); cases this
  | x :: l, [], _, _, h => by have := (h x).mp (.head _); cases this
  | x :: l, y :: m, h1, h2, h => by
    obtain ⟨a1, a2⟩ := List.pairwise_cons.mp h1
    obtain ⟨b1, b2⟩ := List.pairwise_cons.mp h2
    have e : x = y := by
      rcases List.mem_cons.mp ((h x).mp (.head _)) with z | z
      · exact z
      · rcases List.mem_cons.mp ((h y).mpr (.head _)) with q | q
        · exact q.symm
        · have := b1 x z
          have := a1 y q
          omega
    subst e
    rw [srU_uniq a2 b2 fun z => ?_]
    constructor
    · intro hz
      rcases List.mem_cons.mp ((h z).mp (.tail _ hz)) with q | q
      · have := a1 z hz; rw [q] at this; omega
      · exact q
    · intro hz
      rcases List.mem_cons.mp ((h z).mpr (.tail _ hz)) with q | q
      · have := b1 z hz; rw [q] at this; omega
      · exact q
theorem srU_of {n : Nat} {l : List (List Int)} (ho : OkKs n l) (nd : l.Nodup) (h : l.Pairwise fun x y => TS.code 64 x ≤ TS.code 64 y) : SrU l := by
  refine List.Pairwise.imp_of_mem (fun {a b} ha hb z => ?_) (List.Pairwise.and nd h)
  obtain ⟨a1, a2⟩ := ho a ha
  obtain ⟨b1, b2⟩ := ho b hb
  have : TS.code 64 a ≠ TS.code 64 b := fun e => z.1 (code_inj (by omega) a2 b2 e)
  have := z.2
  omega
theorem ssetD_ok {xs : List D} {d : D} (h : ssetD xs = some d) : ∃ ks n, keysD xs = some ks ∧ 1 ≤ n ∧ ks.length < 64 ∧ OkKs n ks ∧ d = .lst ((sortU ks).map rowOf) := by
  unfold ssetD at h
  split at h
  · rename_i e
    cases h
    exact ⟨[], 1, e, Nat.le_refl _, by decide, (fun k hk => nomatch hk), rfl⟩
  · rename_i k ks e
    split at h
    · rename_i z
      cases h
      refine ⟨k :: ks, k.length, e, z.2.1, z.1, fun q hq => ?_, rfl⟩
      have w := List.all_eq_true.mp z.2.2 q hq
      obtain ⟨w1, w2⟩ := oa w
      refine ⟨of_decide_eq_true w1, fun m hm => ?_⟩
      obtain ⟨u1, u2⟩ := oa (List.all_eq_true.mp w2 m hm)
      exact ⟨of_decide_eq_true u1, of_decide_eq_true u2⟩
    · cases h
  · cases h
end Tw
end
section
/-! Part S: sorted. -/
namespace Tw
open PySem PySem.Spec PyProof.Rows L2
section
variable {X : Cx} {c : Cc} {t : Tn} {g : Ga} {cs : Cs} {Wx : WX} {lv : Nat}
/-! ### what a value stands for is told by it -/
theorem relV_int {i : Int} {u : Value} (h : RelV (.int i) u) : ∃ tk, u = .int i tk := h
theorem seqObj_its {h : Heap} {a : Addr} {xs ys : Array Value} (h1 : h.IsTuple a xs) (h2 : h.IsTuple a ys) : xs = ys := by
  obtain ⟨o, e1, c1, n, d1⟩ := h1
  obtain ⟨o', e2, c2, m, d2⟩ := h2
  rw [e1] at e2
  cases e2
  rw [d1] at d2
  cases d2
  rfl
mutual
theorem rep_fun {pins : List (Addr × Obj)} {σ : L2.St} {H : Hp} {s0 : Shared} {W : Wd} {s : S} (I : Inv X pins σ H s0) (ok : Ok X.K g W s H) : ∀ (d e : D) {v u : V} {x : Value}, ordD d = true → ordD e = true → Rep X.K g W d v → Rep X.K g W e u → RelV v x → RelV u x → d = e
  | .int i, e, v, u, x, _, h2, r1, r2, v1, v2 => by
    cases r1
    obtain ⟨tk, rfl⟩ := relV_int v1
    cases e with
    | int j =>
      cases r2
      obtain ⟨tk', e⟩ := relV_int v2
      cases e; rfl
    | tup ys =>
      obtain ⟨a, vs, rfl, _⟩ := r2
      cases v2
    | _ => cases h2
  | .tup xs, e, v, u, x, h1, h2, r1, r2, v1, v2 => by
    obtain ⟨a, vs, rfl, ha, rx⟩ := r1
    cases v1
    cases e with
    | int j =>
      cases r2
      obtain ⟨tk', e⟩ := relV_int v2
      cases e
    | tup ys =>
      obtain ⟨b, us, rfl, hb, ry⟩ := r2
      cases v2
      obtain ⟨its, rv, p1, _⟩ := I.tuple (sqT_H ok ha)
      obtain ⟨its2, ru, p2, _⟩ := I.tuple (sqT_H ok hb)
      have e := seqObj_its p1 p2
      have e : its = its2 := by simpa using congrArg Array.toList e
      subst e
      unfold ordD at h1 h2
      rw [rep_funL I ok xs ys h1 h2 rx ry rv ru]
    | _ => cases h2
  | .non, _, _, _, _, h, _, _, _, _, _ => by cases h
  | .bl _, _, _, _, _, h, _, _, _, _, _ => by cases h
  | .str _, _, _, _, _, h, _, _, _, _, _ => by cases h
  | .lst _, _, _, _, _, h, _, _, _, _, _ => by cases h
  | .box _, _, _, _, _, h, _, _, _, _, _ => by cases h
  | .fn _, _, _, _, _, h, _, _, _, _, _ => by cases h
  | .xc _, _, _, _, _, h, _, _, _, _, _ => by cases h
theorem rep_funL {pins : List (Addr × Obj)} {σ : L2.St} {H : Hp} {s0 : Shared} {W : Wd} {s : S} (I : Inv X pins σ H s0) (ok : Ok X.K g W s H) : ∀ (ds es : List D) {vs us : List V} {xs : List Value}, ordL ds = true → ordL es = true → RepL X.K g W ds vs → RepL X.K g W es us → Vals vs xs → Vals us xs → ds = es
  | [], es, vs, us, xs, _, _, r1, r2, v1, v2 => by
    cases r1
    cases v1
    cases v2
    cases es with
    | nil => rfl
    | cons e es => obtain ⟨_, _, e, _⟩ := r2; cases e
  | d :: ds, es, vs, us, xs, h1, h2, r1, r2, v1, v2 => by
    obtain ⟨v, vr, rfl, q1, q2⟩ := r1
    cases v1 with
    | cons a b =>
      cases v2 with
      | cons a' b' =>
        cases es with
        | nil => cases r2
        | cons e es =>
          obtain ⟨u, ur, eq, p1, p2⟩ := r2
          cases eq
          unfold ordL at h1 h2
          obtain ⟨a1, a2⟩ := ba h1
          obtain ⟨b1, b2⟩ := ba h2
          rw [rep_fun I ok d e a1 b1 q1 p1 a a', rep_funL I ok ds es a2 b2 q2 p2 b b']
end
/-! ### two rows by the sort's own comparison -/
theorem kat_rows {pins : List (Addr × Obj)} {σ : L2.St} {H : Hp} {s0 : Shared} {W : Wd} {s : S} {P : Program} {w : World} {A : Around} {bb : Bool} {Q : Bool → Shared → Prop} (I : Inv X pins σ H s0) (ok : Ok X.K g W s H) (hu : A.units + 64 + 64 < cLine) :
    ∀ (xs ys : List D) {vs us : List V} {its its2 : List Value} {b fin : Bool} (i : Nat), RepL X.K g W xs vs → RepL X.K g W ys us → Vals vs its → Vals us its2 → depL xs ≤ 64 → ltL true xs ys = some b → (decide (xs.length < ys.length) = fin) → ((bb && i == 0) = true → ∀ x y, xs.head? = some x → ys.head? = some y → isInt x = true ∧ isInt y = true) →
      Q b s0 → PySem.W.KatLex P w A bb fin Q (its.zip its2) i s0
  | [], ys, vs, us, its, its2, b, fin, i, r1, r2, v1, v2, _, h, hf, _, q => by
    cases r1
    cases v1
    rw [List.zip_nil_left]
    refine PySem.W.kat_nil ?_
    unfold ltL at h
    cases ys with
    | nil => cases h; rw [← hf]; exact q
    | cons y ys => cases h; rw [← hf]; simpa using q
  | x :: xs, [], vs, us, its, its2, b, fin, i, r1, r2, v1, v2, _, h, hf, _, q => by
    cases r2
    cases v2
    rw [List.zip_nil_right]
    refine PySem.W.kat_nil ?_
    unfold ltL at h
    cases h
    rw [← hf]; simpa using q
  | x :: xs, y :: ys, vs, us, its, its2, b, fin, i, r1, r2, v1, v2, hd, h, hf, hb, q => by
    obtain ⟨v, vr, rfl, p1, p2⟩ := r1
    obtain ⟨u, ur, rfl, q1, q2⟩ := r2
    cases v1 with
    | cons a1 a2 =>
      cases v2 with
      | cons b1 b2 =>
        rw [List.zip_cons_cons]
        unfold depL at hd
        have hf' : decide (xs.length < ys.length) = fin := by rw [← hf]; simp
        have hb' : (bb && i + 1 == 0) = true → ∀ x y, xs.head? = some x → ys.head? = some y → isInt x = true ∧ isInt y = true := fun z => by simp at z
        unfold ltL at h
        split at h
        · rename_i he
          refine PySem.W.kat_cons (eqAt_D I ok p1 q1 a1 b1 he (by omega) P w _ _ (PySem.W.kat_yes ?_))
          exact kat_rows I ok hu xs ys (i + 1) p2 q2 a2 b2 (by omega) h hf' hb' q
        · rename_i he
          split at h
          · rename_i hl hr
            cases h
            refine PySem.W.kat_cons (eqAt_D I ok p1 q1 a1 b1 he (by omega) P w _ _ (PySem.W.kat_no ?_))
            cases hz : (bb && i == 0) with
            | true =>
              obtain ⟨z1, z2⟩ := hb hz x y rfl rfl
              cases x <;> first | cases z1 | skip
              cases y <;> first | cases z2 | skip
              cases p1; cases q1
              obtain ⟨tk, rfl⟩ := relV_int a1
              obtain ⟨tk', rfl⟩ := relV_int b1
              unfold ltG at hl
              cases hl
              exact oneLt_int q
            | false =>
              exact PySem.W.kat_one _ _ (rc_cmp (rc_lt (up := true) I ok x y p1 q1 a1 b1 hl (n := 64) (by omega) (by omega)) (.inl rfl) q)
          · cases h
        · cases h
/-! ### ranks -/
theorem countP_le {p q : D → Bool} : ∀ {l : List D}, (∀ z ∈ l, p z = true → q z = true) → l.countP p ≤ l.countP q
  | [], _ => Nat.le_refl _
  | a :: l, h => by
    have ih := countP_le (l := l) (p := p) (q := q) fun z hz => h z (.tail _ hz)
    rw [List.countP_cons, List.countP_cons]
    cases e : p a with
    | false => simp; omega
    | true => rw [h a (.head _) e]; simp; omega
theorem countP_lt {p q : D → Bool} {d : D} (hq : q d = true) (hp : p d = false) : ∀ {l : List D}, d ∈ l → (∀ z ∈ l, p z = true → q z = true) → l.countP p < l.countP q
  | a :: l, hm, h => by
    rw [List.countP_cons, List.countP_cons]
    rcases List.mem_cons.mp hm with e | e
    · subst e
      have ih := countP_le (l := l) (p := p) (q := q) fun z hz => h z (.tail _ hz)
      rw [hq, hp]; simp; omega
    · have ih := countP_lt hq hp e fun z hz => h z (.tail _ hz)
      cases e : p a with
      | false => simp; omega
      | true => rw [h a (.head _) e]; simp; omega
def rk (ds : List D) (d : D) : Nat := ds.countP fun z => ltB z d
theorem rk_lt {ds : List D} (ho : ∀ z ∈ ds, ordD z = true) {d e : D} (hd : d ∈ ds) (he : e ∈ ds) : decide (rk ds d < rk ds e) = ltB d e := by
  have up : ∀ {d e : D}, d ∈ ds → e ∈ ds → ltB d e = true → rk ds d < rk ds e := fun {d e} hd he h => countP_lt (p := fun z => ltB z d) (q := fun z => ltB z e) (d := d) h (ltB_ir d) hd fun z hz hl => ltB_tr (ho z hz) (ho d hd) (ho e he) hl h
  cases h : ltB d e with
  | true => exact decide_eq_true (up hd he h)
  | false =>
    cases h' : ltB e d with
    | true => exact decide_eq_false (by have := up he hd h'; omega)
    | false =>
      rw [ltB_eq (ho d hd) (ho e he) h h']
      exact decide_eq_false (Nat.lt_irrefl _)
open Classical in
noncomputable def lookD (ds : List D) (us : List Value) (v : Value) : D := if h : ∃ d : D, ∃ i : Nat, us[i]? = some v ∧ ds[i]? = some d then choose h else .non
noncomputable def ltV (ds : List D) (us : List Value) (v u : Value) : Bool := decide (rk ds (lookD ds us v) < rk ds (lookD ds us u))
theorem swo_V (ds : List D) (us : List Value) : SrtO.Swo (ltV ds us) := by
  refine ⟨fun x y h => ?_, fun x y z h1 h2 => ?_⟩
  · have a := of_decide_eq_true h
    exact decide_eq_false (by omega)
  · have a := of_decide_eq_false h1
    have b := of_decide_eq_false h2
    exact decide_eq_false (by omega)
theorem vals_get {vs : List V} {us : List Value} (h : Vals vs us) {i : Nat} {u : Value} (e : us[i]? = some u) : ∃ v, vs[i]? = some v ∧ RelV v u := by
  have hl := h.length
  have hi := (List.getElem?_eq_some_iff.mp e).1
  obtain ⟨w, e2, r⟩ := h.get (List.getElem?_eq_getElem (show i < vs.length by omega))
  rw [e] at e2; cases e2
  exact ⟨_, List.getElem?_eq_getElem _, r⟩
theorem repL_get' {W : Wd} {ds : List D} {vs : List V} (r : RepL X.K g W ds vs) {i : Nat} {v : V} (e : vs[i]? = some v) : ∃ d, ds[i]? = some d ∧ Rep X.K g W d v := by
  have hl := r.length
  have hi := (List.getElem?_eq_some_iff.mp e).1
  obtain ⟨w, e2, q⟩ := r.get (List.getElem?_eq_getElem (show i < ds.length by omega))
  rw [e] at e2; cases e2
  exact ⟨_, List.getElem?_eq_getElem _, q⟩
theorem look_at {pins : List (Addr × Obj)} {σ : L2.St} {H : Hp} {s0 : Shared} {W : Wd} {s : S} (I : Inv X pins σ H s0) (ok : Ok X.K g W s H) {ds : List D} {vs : List V} {us : List Value} (r : RepL X.K g W ds vs) (rv : Vals vs us) (ho : ∀ z ∈ ds, ordD z = true)
    {i : Nat} {u : Value} {d : D} (hu : us[i]? = some u) (hd : ds[i]? = some d) : lookD ds us u = d := by
  have hex : ∃ d : D, ∃ i : Nat, us[i]? = some u ∧ ds[i]? = some d := ⟨d, i, hu, hd⟩
  unfold lookD
  rw [dif_pos hex]
  obtain ⟨j, e1, e2⟩ := Classical.choose_spec hex
  generalize Classical.choose hex = d' at e2 ⊢
  obtain ⟨v, f1, f2⟩ := vals_get rv hu
  obtain ⟨v', g1, g2⟩ := vals_get rv e1
  obtain ⟨q, h1, h2⟩ := repL_get' r f1
  obtain ⟨q', k1, k2⟩ := repL_get' r g1
  rw [hd] at h1; cases h1
  rw [e2] at k1; cases k1
  exact rep_fun I ok _ _ (ho _ (List.mem_of_getElem? e2)) (ho _ (List.mem_of_getElem? hd)) k2 h2 g2 f2
theorem ltV_at {pins : List (Addr × Obj)} {σ : L2.St} {H : Hp} {s0 : Shared} {W : Wd} {s : S} (I : Inv X pins σ H s0) (ok : Ok X.K g W s H) {ds : List D} {vs : List V} {us : List Value} (r : RepL X.K g W ds vs) (rv : Vals vs us) (ho : ∀ z ∈ ds, ordD z = true)
    {i j : Nat} {u u' : Value} {d d' : D} (hu : us[i]? = some u) (hd : ds[i]? = some d) (hu' : us[j]? = some u') (hd' : ds[j]? = some d') : ltV ds us u u' = ltB d d' := by
  unfold ltV
  rw [look_at I ok r rv ho hu hd, look_at I ok r rv ho hu' hd']
  exact rk_lt ho (List.mem_of_getElem? hd) (List.mem_of_getElem? hd')
theorem all_at {p : D → Bool} {ds : List D} (h : ds.all p = true) {i : Nat} {d : D} (e : ds[i]? = some d) : p d = true := List.all_eq_true.mp h d (List.mem_of_getElem? e)
theorem cmpAll_ok {ds : List D} (h : cmpAll ds = true) : (∀ z ∈ ds, ordD z = true) ∧ (∀ z ∈ ds, dep z ≤ 64) ∧ ∀ x ∈ ds, ∀ y ∈ ds, ltD x y = some (ltB x y) := by
  unfold cmpAll at h
  have q := fun z hz => List.all_eq_true.mp h z hz
  have o : ∀ z ∈ ds, ordD z = true := fun z hz => (ba (ba (q z hz)).1).1
  refine ⟨o, fun z hz => of_decide_eq_true (ba (ba (q z hz)).1).2, fun x hx y hy => ?_⟩
  have z := List.all_eq_true.mp (ba (q x hx)).2 y hy
  cases e : ltD x y with
  | none => rw [e] at z; cases z
  | some b => rw [ltD_ord x y b (o x hx) (o y hy) e]
/-- a row and its first thing, as they lie -/
theorem row_at {pins : List (Addr × Obj)} {σ : L2.St} {H : Hp} {s0 : Shared} {W : Wd} {s : S} (I : Inv X pins σ H s0) (ok : Ok X.K g W s H) {x : D} {xs : List D} {v : V} {u : Value} (r : Rep X.K g W (.tup (x :: xs)) v) (rv : RelV v u) :
    ∃ a o its n f y, u = .ref a ∧ s0.heap.get? a = some o ∧ o.cls = .type "tuple" ∧ o.data = .seq its n ∧ its[0]? = some f ∧ Rep X.K g W x y ∧ RelV y f := by
  obtain ⟨a, vs, rfl, ha, rx⟩ := r
  cases rv
  obtain ⟨its, rl, ⟨o, e1, e2, n, e3⟩, _⟩ := I.tuple (sqT_H ok ha)
  obtain ⟨y, vr, rfl, p1, p2⟩ := rx
  cases rl with
  | cons a1 a2 => exact ⟨a, o, _, n, _, y, rfl, e1, e2, e3, by simp, p1, a1⟩
theorem kat_tups {pins : List (Addr × Obj)} {σ : L2.St} {H : Hp} {s0 : Shared} {W : Wd} {s : S} {T : Value} {M : Model} (I : Inv X pins σ H s0) (ok : Ok X.K g W s H) (hd : D → Bool) (h1 : ∀ d, hd d = true → ∃ x xs, d = .tup (x :: xs) ∧ ∀ y f, Rep X.K g W x y → RelV y f → PySem.W.Looks M s0.heap (typeOf f) T) :
    ∀ {ds : List D} {vs : List V} {us : List Value}, RepL X.K g W ds vs → Vals vs us → ds.all hd = true → ∃ fs, fs.length = ds.length ∧ PySem.W.KatTups s0.heap us fs ∧ ∀ f ∈ fs, PySem.W.Looks M s0.heap (typeOf f) T
  | [], _, _, r, rv, _ => by
    cases r; cases rv
    exact ⟨[], rfl, .nil, fun f hf => nomatch hf⟩
  | d :: ds, _, _, r, rv, h => by
    obtain ⟨v, vr, rfl, p1, p2⟩ := r
    cases rv with
    | cons a1 a2 =>
      obtain ⟨z1, z2⟩ := ba (show (hd d && ds.all hd) = true by simpa using h)
      obtain ⟨fs, f1, f2, f3⟩ := kat_tups I ok hd h1 p2 a2 z2
      obtain ⟨x, xs, rfl, q⟩ := h1 d z1
      obtain ⟨a, o, its, n, f, y, rfl, e1, e2, e3, e4, r1, r2⟩ := row_at I ok p1 a1
      refine ⟨f :: fs, by simp [f1], .cons e1 e2 e3 e4 f2, fun k hk => ?_⟩
      rcases List.mem_cons.mp hk with e | e
      · rw [e]; exact q y f r1 r2
      · exact f3 k e
theorem ints_of {W : Wd} : ∀ {ds : List D} {vs : List V}, RepL X.K g W ds vs → ds.all isInt = true → ∃ ns : List Int, vs = ns.map V.int
  | [], _, r, _ => ⟨[], by cases r; rfl⟩
  | d :: ds, _, r, h => by
    obtain ⟨v, vr, rfl, p1, p2⟩ := r
    obtain ⟨z1, z2⟩ := ba (show (isInt d && ds.all isInt) = true by simpa using h)
    obtain ⟨ns, rfl⟩ := ints_of p2 z2
    cases d <;> first | cases z1 | skip
    cases p1
    exact ⟨_ :: ns, rfl⟩
/-- the sort's own look at such a list -/
theorem srt_cmp {pins : List (Addr × Obj)} {σ : L2.St} {H : Hp} {s0 : Shared} {W : Wd} {s : S} {P : Program} {w : World} {A : Around} (I : Inv X pins σ H s0) (ok : Ok X.K g W s H) (hu : A.units + 64 + 64 < cLine) {ds : List D} {vs : List V} {us : List Value} (r : RepL X.K g W ds vs) (rv : Vals vs us) (h : srtOk ds = true) (h2 : 2 ≤ us.length) :
    ∃ κ, (∀ (Q : SortKind → Shared → Prop) (E : Value → Shared → Prop), Q κ s0 → wpAny (model P w) A (keyKind' us.toArray) Q E s0) ∧ SrtO.Cmp P w A s0 κ (fun p => p.1 ∈ us) (SrtO.lt2 (ltV ds us)) := by
  unfold srtOk at h
  obtain ⟨h, _⟩ := ba h
  obtain ⟨hc, hk⟩ := ba h
  obtain ⟨ho, hdp, hlt⟩ := cmpAll_ok hc
  have hlen : us.length = ds.length := by rw [← rv.length, r.length]
  -- two of them
  have two : ∀ (κ : SortKind), (∀ (d d' : D) (v v' : V) (u u' : Value), d ∈ ds → d' ∈ ds → Rep X.K g W d v → Rep X.K g W d' v' → RelV v u → RelV v' u' → wpAny (model P w) A (keyLt' κ u u') (fun b s' => s' = s0 ∧ b = ltB d d') (fun _ _ => False) s0) →
      SrtO.Cmp P w A s0 κ (fun p => p.1 ∈ us) (SrtO.lt2 (ltV ds us)) := fun κ hh p q hp hq => by
    obtain ⟨i, hi⟩ := List.getElem?_of_mem (show p.1 ∈ us from hp)
    obtain ⟨j, hj⟩ := List.getElem?_of_mem (show q.1 ∈ us from hq)
    obtain ⟨v, f1, f2⟩ := vals_get rv hi
    obtain ⟨v', g1, g2⟩ := vals_get rv hj
    obtain ⟨d, d1, d2⟩ := repL_get' r f1
    obtain ⟨d', e1, e2⟩ := repL_get' r g1
    have e := ltV_at I ok r rv ho hi d1 hj e1
    show wpAny (model P w) A (keyLt' κ p.1 q.1) (fun b s' => s' = s0 ∧ b = ltV ds us p.1 q.1) (fun _ _ => False) s0
    rw [e]
    exact hh d d' v v' p.1 q.1 (List.mem_of_getElem? d1) (List.mem_of_getElem? e1) d2 e2 f2 g2
  -- rows
  have rows : ∀ (bb : Bool), (∀ d ∈ ds, ∃ x xs, d = .tup (x :: xs) ∧ (bb = true → isInt x = true)) → SrtO.Cmp P w A s0 (tuples' bb) (fun p => p.1 ∈ us) (SrtO.lt2 (ltV ds us)) := fun bb hr => two (tuples' bb) fun d d' v v' u u' hm hm' p1 p2 q1 q2 => by
    have hl := hlt d hm d' hm'
    have hdp' := hdp d hm
    obtain ⟨x, xs, rfl, hx⟩ := hr d hm
    obtain ⟨x', xs', rfl, hx'⟩ := hr d' hm'
    obtain ⟨a, as, rfl, ha, rx⟩ := p1
    obtain ⟨a', as', rfl, ha', rx'⟩ := p2
    cases q1
    cases q2
    obtain ⟨its, rl, ⟨o, e1, e2, n, e3⟩, _⟩ := I.tuple (sqT_H ok ha)
    obtain ⟨its', rl', ⟨o', e1', e2', n', e3'⟩, _⟩ := I.tuple (sqT_H ok ha')
    have l1 : its.length = (x :: xs).length := by rw [← rl.length, rx.length]
    have l2 : its'.length = (x' :: xs').length := by rw [← rl'.length, rx'.length]
    unfold ltG at hl
    unfold dep at hdp'
    refine PySem.W.kat_lt (b := bb) e1 e3 e1' e3' ?_
    rw [List.size_toArray, List.size_toArray]
    refine kat_rows I ok hu (x :: xs) (x' :: xs') 0 rx rx' rl rl' (by omega) hl (by rw [l1, l2]) (fun z y y' f1 f2 => ?_) ⟨rfl, rfl⟩
    cases f1; cases f2
    have zb : bb = true := by cases bb <;> first | rfl | cases z
    exact ⟨hx zb, hx' zb⟩
  rcases Bool.or_eq_true_iff.mp hk with hk | hk
  · rcases Bool.or_eq_true_iff.mp hk with hk | hk
    · obtain ⟨ns, rfl⟩ := ints_of r hk
      refine ⟨oneType', fun Q E hq => ?_, two oneType' fun d d' v v' u u' hm hm' p1 p2 q1 q2 => ?_⟩
      · have hi := rv.ints
        match us, hi, h2 with
        | v1 :: v2 :: rest, hi, _ =>
          rw [keyKind_ints hi]
          exact wpAny_pure hq
        | [], _, z => exact absurd z (by decide)
        | [_], _, z => exact absurd z (by simp)
      · have z1 := List.all_eq_true.mp hk d hm
        have z2 := List.all_eq_true.mp hk d' hm'
        have hl := hlt d hm d' hm'
        cases d <;> first | cases z1 | skip
        cases d' <;> first | cases z2 | skip
        cases p1; cases p2
        obtain ⟨tk, rfl⟩ := relV_int q1
        obtain ⟨tk', rfl⟩ := relV_int q2
        rw [keyLt'_oneType]
        unfold ltG at hl
        refine oneLt_int ⟨rfl, ?_⟩
        exact Option.some.inj hl
    · obtain ⟨fs, f1, f2, f3⟩ := kat_tups (T := .type "int") (M := model P w) I ok headI (fun d hd => by
        unfold headI at hd
        split at hd
        · exact ⟨_, _, rfl, fun y f r1 r2 => by
            cases r1
            obtain ⟨tk, rfl⟩ := relV_int r2
            exact PySem.W.Looks.now⟩
        · cases hd) r rv hk
      refine ⟨tuples' true, fun Q E hq => PySem.W.kat_kind f2 (by omega) f3 rfl ?_, rows true fun d hd => ?_⟩
      · have e : (Value.type "int" != Value.type "tuple") = true := by decide +kernel
        rw [e]; exact hq
      · have z := List.all_eq_true.mp hk d hd
        unfold headI at z
        split at z
        · exact ⟨_, _, rfl, fun _ => rfl⟩
        · cases z
  · obtain ⟨fs, f1, f2, f3⟩ := kat_tups (T := .type "tuple") (M := model P w) I ok headT (fun d hd => by
      unfold headT at hd
      split at hd
      · refine ⟨_, _, rfl, fun y f r1 r2 => ?_⟩
        obtain ⟨a, vs, rfl, ha, _⟩ := r1
        cases r2
        obtain ⟨its, rl, ⟨o, e1, e2, n, e3⟩, _⟩ := I.tuple (sqT_H ok ha)
        have z : PySem.W.Looks (model P w) s0.heap (typeOf (.ref a)) o.cls := (PySem.W.Looks.ld e1).andThen .now
        rw [e2] at z
        exact z
      · cases hd) r rv hk
    refine ⟨tuples' false, fun Q E hq => PySem.W.kat_kind f2 (by omega) f3 rfl ?_, rows false fun d hd => ?_⟩
    · have e : (Value.type "tuple" != Value.type "tuple") = false := by decide +kernel
      rw [e]; exact hq
    · have z := List.all_eq_true.mp hk d hd
      unfold headT at z
      split at z
      · exact ⟨_, _, rfl, fun z => nomatch z⟩
      · cases z
theorem perm_lift {α β : Type} {f : α → β} : ∀ {l : List α} {m : List β}, m.Perm (l.map f) → ∃ l' : List α, l'.Perm l ∧ m = l'.map f := by
  have key : ∀ {a b : List β}, a.Perm b → ∀ l : List α, b = l.map f → ∃ l' : List α, l'.Perm l ∧ a = l'.map f := by
    intro a b p
    induction p with
    | nil =>
      intro l e
      have : l = [] := by simpa using e.symm
      exact ⟨[], by rw [this], rfl⟩
    | cons x _ ih =>
      intro l e
      cases l with
      | nil => cases e
      | cons y l =>
        obtain ⟨l', h1, h2⟩ := ih l (List.cons.inj e).2
        exact ⟨y :: l', h1.cons y, by rw [List.map_cons, ← h2, (List.cons.inj e).1]⟩
    | swap x y r =>
      intro l e
      match l, e with
      | a :: b :: l, e =>
        obtain ⟨e1, e2⟩ := List.cons.inj e
        obtain ⟨e3, e4⟩ := List.cons.inj e2
        exact ⟨b :: a :: l, .swap a b l, by rw [List.map_cons, List.map_cons, ← e4, e1, e3]⟩
      | [_], e => simp at e
      | [], e => simp at e
    | trans _ _ ih1 ih2 =>
      intro l e
      obtain ⟨l', h1, h2⟩ := ih2 l e
      obtain ⟨l'', h3, h4⟩ := ih1 l' h2
      exact ⟨l'', h3.trans h1, h4⟩
  exact fun {l m} p => key p l rfl
/-- the things behind the values -/
theorem srt_out {pins : List (Addr × Obj)} {σ : L2.St} {H : Hp} {s0 : Shared} {W : Wd} {s : S} (I : Inv X pins σ H s0) (ok : Ok X.K g W s H) {ds : List D} {vs : List V} {us out : List Value} (r : RepL X.K g W ds vs) (rv : Vals vs us) (ho : ∀ z ∈ ds, ordD z = true)
    (h1 : SrtO.Srtd (ltV ds us) out) (h2 : out.Perm us) : ∃ vs', Vals vs' out ∧ RepL X.K g W (sortD ds) vs' := by
  have l1 := rv.length
  have l2 := r.length
  obtain ⟨T, hT⟩ : ∃ T : List ((D × V) × Value), T = (ds.zip vs).zip us := ⟨_, rfl⟩
  have e1 : T.map (·.2) = us := by rw [hT]; exact List.map_snd_zip (by simp; omega)
  have e2 : T.map (fun t => t.1.1) = ds := by
    have z : T.map (fun t => t.1) = ds.zip vs := by rw [hT]; exact List.map_fst_zip (by simp; omega)
    have q : T.map (fun t => t.1.1) = (T.map fun t => t.1).map fun p => p.1 := by rw [List.map_map]; rfl
    rw [q, z]
    exact List.map_fst_zip (by omega)
  have at_ : ∀ t ∈ T, ∃ i : Nat, us[i]? = some t.2 ∧ ds[i]? = some t.1.1 ∧ Rep X.K g W t.1.1 t.1.2 ∧ RelV t.1.2 t.2 := fun t ht => by
    obtain ⟨i, hi⟩ := List.getElem?_of_mem ht
    rw [hT] at hi
    obtain ⟨h3, h4⟩ := List.getElem?_zip_eq_some.mp hi
    obtain ⟨h5, h6⟩ := List.getElem?_zip_eq_some.mp h3
    refine ⟨i, h4, h5, ?_, ?_⟩
    · obtain ⟨v, f1, f2⟩ := r.get h5
      rw [h6] at f1; cases f1; exact f2
    · obtain ⟨u, f1, f2⟩ := rv.get h6
      rw [h4] at f1; cases f1; exact f2
  rw [← e1] at h2
  obtain ⟨T', p, e3⟩ := perm_lift h2
  have mem : ∀ t ∈ T', t ∈ T := fun t ht => p.mem_iff.mp ht
  have hS : Srt (T'.map fun t => t.1.1) := by
    rw [e3] at h1
    have q := List.pairwise_map.mp h1
    refine List.pairwise_map.mpr (List.Pairwise.imp_of_mem (fun {a b} ha hb z => ?_) q)
    obtain ⟨i, a1, a2, _⟩ := at_ a (mem a ha)
    obtain ⟨j, b1, b2, _⟩ := at_ b (mem b hb)
    rw [← ltV_at I ok r rv ho b1 b2 a1 a2]
    exact z
  have hP : (T'.map fun t => t.1.1).Perm ds := by
    rw [← e2]
    exact p.map _
  have eS : sortD ds = T'.map fun t => t.1.1 := srt_uniq (fun z hz => ho z ((sortD_perm ds).mem_iff.mp hz)) ((sortD_perm ds).trans hP.symm) (sortD_srt ho) hS
  refine ⟨T'.map fun t => t.1.2, ?_, ?_⟩
  · rw [e3]
    have : ∀ l : List ((D × V) × Value), (∀ t ∈ l, t ∈ T) → Vals (l.map fun t => t.1.2) (l.map fun t => t.2) := by
      intro l
      induction l with
      | nil => exact fun _ => .nil
      | cons t l ih =>
        intro h
        obtain ⟨i, _, _, _, q⟩ := at_ t (h t (.head _))
        exact .cons q (ih fun x hx => h x (.tail _ hx))
    exact this T' mem
  · rw [eS]
    have : ∀ l : List ((D × V) × Value), (∀ t ∈ l, t ∈ T) → RepL X.K g W (l.map fun t => t.1.1) (l.map fun t => t.1.2) := by
      intro l
      induction l with
      | nil => exact fun _ => rfl
      | cons t l ih =>
        intro h
        obtain ⟨i, _, _, q, _⟩ := at_ t (h t (.head _))
        exact .cons q (ih fun x hx => h x (.tail _ hx))
    exact this T' mem
/-- all the items of a tuple, in a new list -/
theorem coll_tup {P : Program} {w : World} {A : Around} {E : Value → Shared → Prop} {s : Shared} {l : Addr} {us : List Value} {Q : List Value → Shared → Prop} (hl : s.heap.IsTuple l us.toArray) (hsz : us.length ≤ sizeLine)
    (h : Q us { s with heap := (s.heap.push (seqObj "list" #[] 0)).update s.heap.objs.size (Obj.mapSeq (· ++ us.toArray)) }) : wpAny (model P w) A (collect (.ref l)) Q E s := by
  obtain ⟨o, ho, hc, n, hd⟩ := id hl
  have hL : (s.heap.push (seqObj "list" #[] 0)).get? l = some o := Heap.get?_push_of_some _ ho
  have hN : (s.heap.push (seqObj "list" #[] 0)).get? s.heap.objs.size = some (seqObj "list" #[] 0) := Heap.get?_push_size _ rfl
  unfold collect
  refine wpAny_bind (wpAny_runValue (codeAny_builtin PyProof.Rows.entry_proto_collect' ?_))
  show wpAny _ _ (do again (.builtin "list.__iadd__" ⟨[← newList [], .ref l], []⟩)) _ _ s
  refine wpAny_bind (wpAny_newList (wpAny_pure ⟨Code.quiet_builtin _ (by decide +kernel), codeAny_builtin PyProof.Rows.entry_list_iadd' ?_⟩))
  show wpAny _ _ (Builtin.List.listExtendWith (.ref s.heap.objs.size) (.ref l) (.ref s.heap.objs.size)) _ _ { s with heap := s.heap.push (seqObj "list" #[] 0) }
  unfold Builtin.List.listExtendWith
  refine wpAny_bind (wpAny_typeOf (T := "tuple") ⟨o, hL, hc⟩ ?_)
  have ht : (Value.type "tuple" == Value.type "tuple") = true := by rfl
  rw [if_pos (by rw [ht]; simp)]
  refine wpAny_bind (listItems_at hL hd (wpAny_bind (listItems_at (xs := #[]) (n := 0) hN rfl ?_)))
  rw [if_neg (by simp)]
  refine wpAny_bind (listUpdate_at (xs := #[]) (n := 0) hN rfl (wpAny_pure ?_) (Nat.zero_le _) (by show (#[] ++ us.toArray).size ≤ sizeLine + 1; simp only [Array.size_append, List.size_toArray, List.length_nil]; omega))
  show wpAny (model P w) A (do
      let o ← load s.heap.objs.size
      match o.data with
      | .seq xs _ => pure xs.toList
      | _ => unsupported "internal:collect") Q E { s with heap := (s.heap.push (seqObj "list" #[] 0)).update s.heap.objs.size (Obj.mapSeq (· ++ us.toArray)) }
  refine wpAny_bind (wpAny_load (get?_update_seq hN _) ?_)
  show wpAny _ _ (pure ((#[] : Array Value) ++ us.toArray).toList) Q E _
  rw [show ((#[] : Array Value) ++ us.toArray).toList = us by simp]
  exact wpAny_pure h
/-- sorted, of a tuple -/
theorem sorted_tupO {P : Program} {w : World} {A : Around} {E : Value → Shared → Prop} {s : Shared} {l : Addr} {us : List Value} {ltv : Value → Value → Bool} {Q : Value → Shared → Prop} (O : SrtO.Swo ltv) (hl : s.heap.IsTuple l us.toArray) (hz : us.length ≤ sizeLine)
    (hS : 2 ≤ us.length → ∀ (h₁ : Heap) (a : Addr), h₁.get? a = some (seqObj "list" us.toArray 0) → (∀ b o, s.heap.get? b = some o → b ≠ a ∧ h₁.get? b = some o) → SrtO.SortableO P w A.in1.in1 { s with heap := h₁ } a us ltv)
    (h : ∀ out : List Value, SrtO.Srtd ltv out → SrtO.Stb ltv out us → Q (.ref (s.heap.objs.size + 1)) { s with heap := sortedAll s.heap us out.toArray }) :
    wpAny (model P w) A (call (.builtin "sorted") [.ref l]) Q E s := by
  refine Calls.call_function_entry PyProof.Rows.kind_sorted PyProof.Rows.plain_sorted PyProof.Rows.entry_sorted (PyProof.Rows.args_sorted1 _) ?_
  unfold Builtin.«sorted»
  refine wpAny_bind (m := checkCount "sorted" 1 1 _) (wpAny_pure (wpAny_bind (coll_tup hl hz (wpAny_bind (wpAny_newList ?_ hz)))))
  obtain ⟨h1, e1⟩ : ∃ h1 : Heap, h1 = (s.heap.push (seqObj "list" #[] 0)).update s.heap.objs.size (Obj.mapSeq (· ++ us.toArray)) := ⟨_, rfl⟩
  have hsz : h1.objs.size = s.heap.objs.size + 1 := by rw [e1, Heap.size_update, PyProof.Rows.size_push']
  have hoL : (h1.push (seqObj "list" us.toArray 0)).get? (s.heap.objs.size + 1) = some (seqObj "list" us.toArray 0) := by
    rw [← hsz]; exact Heap.get?_push_size _ rfl
  have keep : ∀ b o, s.heap.get? b = some o → b ≠ s.heap.objs.size + 1 ∧ (h1.push (seqObj "list" us.toArray 0)).get? b = some o := fun b o q => by
    have hlt : b < s.heap.objs.size := Heap.lt_size q
    refine ⟨Nat.ne_of_lt (Nat.lt_succ_of_lt hlt), Heap.get?_push_of_some _ ?_⟩
    rw [e1, Heap.get?_update_ne _ _ _ _ (Nat.ne_of_lt hlt)]
    exact Heap.get?_push_of_some _ q
  rw [← e1]
  show wpAny _ _ _ _ _ { s with heap := h1.push (seqObj "list" us.toArray 0) }
  rw [hsz]
  refine wpAny_bind (wpAny_holding (wpAny_call_entry PyProof.Rows.slot_list_sort ⟨_, hoL, rfl⟩ PyProof.Rows.entry_list_sort (SrtO.list_sort_ord O hoL hz (fun h2 => hS h2 _ _ hoL keep) fun out hs hb => ⟨_, rfl, wpAny_pure ⟨_, rfl, ?_⟩⟩) (PyProof.Rows.args_list_sort _)))
  have q := h out hs hb
  unfold sortedAll at q
  rw [← e1] at q
  exact q
theorem sorts_ok (hr : Room lv X.A) (hc : X.calm = true) : SortsOk X g := by
  intro pins s0 σ H vs us Q I r ⟨W, s, ds, d, ok, rp, hd, a⟩
  have hu : X.A.in1.in1.units + 64 + 64 < cLine := by
    have z := hr.un
    show X.A.units + 1 + 1 + 64 + 64 < cLine
    omega
  -- what is asked behind the copy
  have ask : ∀ {xs : List D} {ws : List V} {its : List Value}, RepL X.K g W xs ws → Vals ws its → srtOk xs = true → 2 ≤ its.length → ∀ (h₁ : Heap) (p : Addr), h₁.get? p = some (seqObj "list" its.toArray 0) → (∀ b o, s0.heap.get? b = some o → b ≠ p ∧ h₁.get? b = some o) →
      SrtO.SortableO X.prog X.w X.A.in1.in1 { s0 with heap := h₁ } p its (ltV xs its) := fun {xs ws its} rx rv hs h2 h₁ p hp keep h' keep' => by
    have I' : Inv X pins σ H { s0 with heap := h' } := I.kept (t' := s0.toks) fun b o e => keep' b o (keep b o e).1 (keep b o e).2
    exact srt_cmp I' ok hu rx rv hs h2
  have fin : ∀ {xs : List D} {ws : List V} {its : List Value}, RepL X.K g W xs ws → Vals ws its → srtOk xs = true → d = .lst (sortD xs) → ∀ out : List Value, SrtO.Srtd (ltV xs its) out → SrtO.Stb (ltV xs its) out its →
      EP X pins σ Q (.ref (s0.heap.objs.size + 1)) { s0 with heap := sortedAll s0.heap its out.toArray } := fun {xs ws its} rx rv hs ed out h1 h2 => by
    subst ed
    unfold srtOk at hs
    obtain ⟨hs, hb⟩ := ba hs
    obtain ⟨ho, _, _⟩ := cmpAll_ok (ba hs).1
    obtain ⟨ws', q1, q2⟩ := srt_out I ok rx rv ho h1 h2.perm
    obtain ⟨ep, he⟩ := PyProof.Rows.sortedAll_at s0.heap its out.toArray
    have hlen : ws'.length ≤ sizeLine := by
      rw [q2.length, (sortD_perm xs).length_eq]
      exact small (of_decide_eq_true hb)
    have hn : H (s0.heap.objs.size + 1) = none := I.hok.fresh (Nat.le_succ _)
    exact ⟨.ref _, upd H (s0.heap.objs.size + 1) (.lst ws'), I.laid (t' := s0.toks) (fun _ _ => PyProof.Rows.sortedAll_old) (Nat.le_succ _) ⟨hlen, out, ep, q1, he⟩, rfl, a.lst ok q2 hn⟩
  unfold biD at hd
  split at hd <;> first | contradiction | skip
  · split at hd <;> cases hd
    rename_i hs
    obtain ⟨v, rfl, p, ws, rfl, hp, rx⟩ := rp.inv1
    obtain ⟨its, rv, hl, hz⟩ := I.list (sqL_H ok hp)
    rw [Vals.ref1 r]
    exact SrtO.sorted_ord (swo_V _ its) hl.isList (by rw [← rv.length]; exact hz) (ask rx rv hs) (fin rx rv hs rfl)
  · split at hd <;> cases hd
    rename_i hs
    obtain ⟨v, rfl, p, ws, rfl, hp, rx⟩ := rp.inv1
    obtain ⟨its, rv, hl, hz⟩ := I.tuple (sqT_H ok hp)
    rw [Vals.ref1 r]
    exact sorted_tupO (swo_V _ its) hl (by rw [← rv.length]; exact hz) (ask rx rv hs) (fin rx rv hs rfl)
/-! ### sorted(set(..)) -/
theorem intsD_rep {W : Wd} : ∀ {xs : List D} {is : List Int} {vs : List V}, intsD xs = some is → RepL X.K g W xs vs → vs = is.map V.int
  | [], _, _, e, r => by cases e; cases r; rfl
  | x :: xs, is, _, e, r => by
    obtain ⟨v, vr, rfl, p1, p2⟩ := r
    cases x <;> first | (unfold intsD at e; cases e; done) | skip
    unfold intsD at e
    obtain ⟨js, e1, e2⟩ := opt_map e
    subst e2
    cases p1
    rw [intsD_rep e1 p2]; rfl
theorem rows_rep {W : Wd} : ∀ {xs : List D} {ks : List (List Int)} {vs : List V}, keysD xs = some ks → RepL X.K g W xs vs → ∃ L : List (Addr × List Int), vs = L.map (fun p => V.ref p.1) ∧ L.map (·.2) = ks ∧ ∀ p ∈ L, SqT X.K W.F p.1 (p.2.map V.int)
  | [], _, _, e, r => by
    cases e; cases r
    exact ⟨[], rfl, rfl, fun p hp => nomatch hp⟩
  | x :: xs, ks, _, e, r => by
    obtain ⟨v, vr, rfl, p1, p2⟩ := r
    unfold keysD at e
    split at e <;> cases e
    rename_i k ks' e1 e2
    obtain ⟨L, h1, h2, h3⟩ := rows_rep e2 p2
    unfold keyD at e1
    split at e1 <;> first | contradiction | skip
    obtain ⟨a, us, rfl, ha, ru⟩ := p1
    have eu := intsD_rep e1 ru
    subst eu
    refine ⟨(a, k) :: L, by simp [h1], by simp [h2], fun p hp => ?_⟩
    rcases List.mem_cons.mp hp with z | z
    · rw [z]; exact ha
    · exact h3 p z
theorem repL_ints {W : Wd} : ∀ k : List Int, RepL X.K g W (k.map D.int) (k.map V.int)
  | [] => rfl
  | i :: k => ⟨.int i, k.map V.int, rfl, rfl, repL_ints k⟩
theorem rep_rows {W : Wd} : ∀ {L : List (Addr × List Int)}, (∀ p ∈ L, SqT X.K W.F p.1 (p.2.map V.int)) → RepL X.K g W ((L.map (·.2)).map rowOf) (L.map fun p => V.ref p.1)
  | [], _ => rfl
  | p :: L, h => ⟨.ref p.1, _, rfl, ⟨p.1, _, rfl, h p (.head _), repL_ints p.2⟩, rep_rows fun q hq => h q (.tail _ hq)⟩
theorem sn_sset (go : GOk X.prog X.w X.K X.mg X.base g t cs lv) (xo : XOk g X c Wx lv) {a : E} {e : Expr} {x y : Str} {p p2 pos pos2 : Pos} (hx : bltB t c.sc x "sorted" = true) (hy : bltB t c.sc y "set" = true) (hst : noStar e = true) (ha : PE X e (rdE X.K g cs lv Wx a)) :
    PE X (.Call (.Name x p) [.Call (.Name y p2) [e] [] pos2] [] pos) (rdE X.K g cs lv Wx (.set a)) := by
  obtain ⟨rfl, hg, hm⟩ := bltB_ok go xo.toXB hx
  obtain ⟨rfl, hg2, hm2⟩ := bltB_ok go xo.toXB hy
  have hu : X.A.units + 64 < cLine := by have := xo.room.un; omega
  have h1 : PE X (.Call (.Name ("set" : Str) p2) [e] [] pos2) (tCB (rSet2 X.K X.prog X.w) (tCons (rdE X.K g cs lv Wx a) tNil)) :=
    pe_callTy (cr_set2 xo.calm hu) hg2 hm2 (by decide +kernel) (pa_cons ha pa_nil (star_no hst)) (by decide +kernel) (by decide +kernel) (star_no hst) rfl
  refine PE.of (pe_callB (cr_sortedT xo.calm) hg hm (by decide +kernel) (pa_cons h1 pa_nil) (by decide +kernel) (by decide +kernel)) fun σ H Q ⟨W, s, r, ok, en, h⟩ => ?_
  refine ⟨W, s, r, ok, en, (Post.bnd h).mono fun d s1 W1 H1 x1 ok1 h1 v rv => ?_⟩
  obtain ⟨dd, e1, _⟩ := Post.opt h1 ok1
  rw [e1] at h1
  have two : ∃ xs l us, ssetD xs = some dd ∧ v = .ref l ∧ (SqL X.K W1.F l us ∨ SqT X.K W1.F l us) ∧ RepL X.K g W1 xs us := by
    unfold biD at e1
    split at e1 <;> first | contradiction | skip
    · rename_i xs _ e2
      cases e2
      obtain ⟨l, us, rfl, hl, ru⟩ := rv
      exact ⟨xs, l, us, e1, rfl, .inl hl, ru⟩
    · rename_i xs _ e2
      cases e2
      obtain ⟨l, us, rfl, hl, ru⟩ := rv
      exact ⟨xs, l, us, e1, rfl, .inr hl, ru⟩
  obtain ⟨xs, l, us, e1, rfl, hl, ru⟩ := two
  obtain ⟨ks, n, k1, k2, k3, k4, k5⟩ := ssetD_ok e1
  subst k5
  obtain ⟨L0, f1, f2, f3⟩ := rows_rep k1 ru
  subst f1
  refine ⟨l, L0, rfl, hl.imp (sqL_H ok1) (sqT_H ok1), fun q hq => sqT_H ok1 (f3 q hq), by rw [← f2, List.length_map] at k3; exact k3, fun b L hb g1 g2 => ?_⟩
  have hF : ∀ q ∈ L, SqT X.K W1.F q.1 (q.2.map V.int) := fun q hq => f3 q (g1 q hq)
  have ok2 := ok1.alloc0 (o := SetTO X.prog X.w b L) hb
  have hO : ∀ q ∈ L, q.2.length = n ∧ TS.Bd 64 q.2 := fun q hq => k4 q.2 (by rw [← f2]; exact List.mem_map_of_mem (g1 q hq))
  refine ⟨b, L, n, 64, rfl, upd_same, fun q hq => sqT_H ok2 (hF q hq), k2, hO, fun L' pp m1 m2 m3 m4 hp => ?_⟩
  have hF' : ∀ q ∈ L', SqT X.K W1.F q.1 (q.2.map V.int) := fun q hq => hF q (m1.mem_iff.mp hq)
  have hks : L'.map (·.2) = sortU ks := by
    have o' : OkKs n (L'.map (·.2)) := fun k hk => by
      obtain ⟨q, hq, rfl⟩ := List.mem_map.mp hk
      exact hO q (m1.mem_iff.mp hq)
    refine srU_uniq (srU_of o' m2 (List.pairwise_map.mpr m4)) (sortU_sr k4) fun k => ?_
    rw [sortU_mem, ← f2]
    constructor
    · intro hk
      obtain ⟨q, hq, rfl⟩ := List.mem_map.mp hk
      exact List.mem_map_of_mem (g1 q (m1.mem_iff.mp hq))
    · intro hk
      obtain ⟨q, hq, rfl⟩ := List.mem_map.mp hk
      obtain ⟨z, hz, e⟩ := List.mem_map.mp (g2 q hq)
      exact List.mem_map.mpr ⟨z, m1.mem_iff.mpr hz, e⟩
  have rl := rep_rows (X := X) (g := g) hF'
  rw [hks] at rl
  exact h1 _ _ ((Ext.alloc0 W1 hb).trans (.alloc (ok2.unF hp) hp)) (ok2.alloc hp) _ (rep_lst (ok2.unF hp) rl)
end
end Tw
end
section
/-! Part X: texts cut and joined, things turned round, calls of a def that a name holds, a lambda tried. -/
namespace Tw
open PySem PySem.Spec PyProof.Rows L2
section
variable {X : Cx} {c : Cc} {t : Tn} {g : Ga} {cs : Cs} {Wx : WX} {lv : Nat}
theorem repL_strs {K : PySem.W.Frag} {W : Wd} : ∀ ys : List Str, RepL K g W (ys.map D.str) (ys.map V.str)
  | [] => rfl
  | y :: ys => ⟨.str y, ys.map V.str, rfl, rfl, repL_strs ys⟩
theorem RepL.strs {K : PySem.W.Frag} {W : Wd} : ∀ {ds : List D} {vs : List V} {ys : List Str}, RepL K g W ds vs → strsD ds = some ys → vs = ys.map V.str
  | [], _, _, h, e => by cases h; unfold strsD at e; cases e; rfl
  | d :: ds, _, ys, ⟨v, r, ev, h, hr⟩, e => by
    subst ev
    unfold strsD at e
    cases d <;> first | cases e | skip
    obtain ⟨zs, e1, e2⟩ := opt_map e
    subst e2
    cases h
    rw [RepL.strs hr e1]; rfl
theorem base_name {x a : Str} {p : Pos} {env : Env} (w : Sem Value) : attributeBase (.Name x p) a env w = w := rfl
theorem sn_spl {a : E} {z x : Str} {p apos pos p2 : Pos} {j : Nat} (ha : PE X (.Name x p) (rdE X.K g cs lv Wx a)) (hl : (apos.endLine == pos.line) = true) : PE X (.Call (.Attribute (.Name x p) ("split" : Str) apos) [.Constant (.str z) j p2] [] pos) (rdE X.K g cs lv Wx (.spl a z)) :=
  PE.of (pe_split ha pe_str rfl rfl hl) fun σ H Q ⟨W, s, r, ok, en, h⟩ => ⟨W, s, r, ok, en, (Post.bnd h).mono fun y s1 W1 H1 x1 ok1 h1 v rv => by
    obtain ⟨d, e, _⟩ := Post.opt h1 ok1
    rw [e] at h1
    unfold splD at e
    split at e
    · rename_i b
      split at e
      · rename_i hb
        cases e
        cases rv
        refine ⟨⟨b, rfl⟩, b, z, rfl, rfl, hb.1, by have := hb.2; rw [sizeLine_eq]; unfold big at this; omega, fun q hq => ?_⟩
        exact ans_lst ok1 (repL_strs _) hq h1
      · cases e
    · cases e⟩
theorem sn_jn {a : E} {z : Str} {e : Expr} {apos pos p2 : Pos} {j : Nat} (hs : noStar e = true) (ha : PE X e (rdE X.K g cs lv Wx a)) (hl : (apos.endLine == pos.line) = true) : PE X (.Call (.Attribute (.Constant (.str z) j p2) ("join" : Str) apos) [e] [] pos) (rdE X.K g cs lv Wx (.jn z a)) :=
  PE.of (pe_join pe_str ha (star_no hs) rfl hl) fun σ H Q ⟨W, s, r, ok, en, h⟩ => ⟨⟨z, rfl⟩, W, s, r, ok, en, (Post.bnd h).mono fun y s1 W1 H1 x1 ok1 h1 v rv => by
    obtain ⟨d, e, _⟩ := Post.opt h1 ok1
    rw [e] at h1
    unfold jnD at e
    have le : ∀ {n : Nat}, n ≤ big → n ≤ 16777216 := fun h => by unfold big at h; omega
    split at e
    · split at e
      · rename_i ys hy
        split at e
        · rename_i hb
          cases e
          obtain ⟨p, vs, rfl, hp, r1⟩ := rv
          exact ⟨z, p, ys, rfl, rfl, .inl (by rw [← r1.strs hy]; exact sqL_H ok1 hp), le hb, Post.now h1 ok1 _ rfl⟩
        · cases e
      · cases e
    · split at e
      · rename_i ys hy
        split at e
        · rename_i hb
          cases e
          obtain ⟨p, vs, rfl, hp, r1⟩ := rv
          exact ⟨z, p, ys, rfl, rfl, .inr (by rw [← r1.strs hy]; exact sqT_H ok1 hp), le hb, Post.now h1 ok1 _ rfl⟩
        · cases e
      · cases e
    · cases e⟩
/-! ### xs[::-1] -/
theorem adj_rev (n : Nat) : Builtin.Slice.sliceAdjust none none (-1) (n : Int) = ((n : Int) - 1, -1) := by
  unfold Builtin.Slice.sliceAdjust
  simp
theorem places_rev (n : Nat) : Builtin.Slice.slicePlaces ((n : Int) - 1) (-1) (-1) = n := by
  unfold Builtin.Slice.slicePlaces
  by_cases h : n = 0
  · subst h; simp
  · have h1 : ¬ ((-1 : Int) > 0) := by omega
    have h2 : ¬ ((n : Int) - 1 ≤ -1) := by omega
    simp only [h1, if_false, Int.neg_neg, Int.ediv_one]
    split <;> omega
theorem fmcX {α β : Type} {f h : α → Option β} : ∀ {l : List α}, (∀ n ∈ l, f n = h n) → l.filterMap f = l.filterMap h
  | [], _ => rfl
  | a :: l, e => by rw [List.filterMap_cons, List.filterMap_cons, e a (.head _), fmcX fun n hn => e n (.tail _ hn)]
theorem pick_rev (xs : Array Value) : ((List.range xs.size).filterMap fun (m : Nat) => xs[((xs.size : Int) - 1 + (m : Int) * (-1)).toNat]?).toArray = xs.toList.reverse.toArray := by
  congr 1
  apply List.ext_getElem?
  intro i
  have e : (List.range xs.size).filterMap (fun (m : Nat) => xs[((xs.size : Int) - 1 + (m : Int) * (-1)).toNat]?) = (List.range xs.size).map fun m => xs.toList.reverse.getD m .none := by
    rw [← List.filterMap_eq_map]
    refine fmcX fun m hm => ?_
    have hm : m < xs.size := by simpa using hm
    have e1 : ((xs.size : Int) - 1 + (m : Int) * (-1)).toNat = xs.size - 1 - m := by omega
    have h2 : xs.size - 1 - m < xs.size := by omega
    rw [e1, Array.getElem?_eq_getElem h2]
    simp only [Function.comp]
    congr 1
    rw [List.getD_eq_getElem?_getD, List.getElem?_reverse (by simpa using hm)]
    simp [h2]
  rw [e]
  by_cases h : i < xs.size
  · rw [List.getElem?_map, List.getElem?_range h, Option.map_some, List.getD_eq_getElem?_getD]
    have : i < xs.toList.reverse.length := by simpa using h
    rw [List.getElem?_eq_getElem this]; rfl
  · rw [List.getElem?_eq_none (by simpa using h), List.getElem?_eq_none (by simpa using h)]
section
variable {prog : Program} {w : World} {A : Around} {E : Value → Shared → Prop} {s : Shared}
theorem getItem_tuple_rev {t sl : Addr} {items : Array Value} {vs : Value} {Q : Value → Shared → Prop} (ht : IsTup s.heap t items) (hs : s.heap.IsSliceOf sl .none .none vs) (ps : IsPart vs (some (-1)))
    (h : Q (.ref s.heap.objs.size) { s with heap := s.heap.push { cls := .type "tuple", data := .seq items.toList.reverse.toArray } }) (hsz : items.size ≤ sizeLine) : wpAny (model prog w) A (getItem (.ref t) (.ref sl)) Q E s := by
  have hok : sizeOk (.seq items.toList.reverse.toArray) := by
    show items.toList.reverse.toArray.size ≤ sizeLine
    rw [List.size_toArray, List.length_reverse, Array.length_toList]; exact hsz
  obtain ⟨os, hos, hcs, hds⟩ := id hs
  have hTs : s.TypeIs (.ref sl) "slice" := ⟨os, hos, hcs⟩
  unfold getItem
  try with_reducible refine wpAny_holding ?_
  first | refine wpAny_bind (wpAny_pure ?_) | skip
  refine wpAny_bind (wpAny_sequenceKey ht.typeIs (by decide) (wpAny_bind (wpAny_callSpecial?_slot (name := Str.ofString "__getitem__") ht.typeIs PyProof.Rows.slot_tuple_getitem (wpAny_call_entry PyProof.Rows.slot_tuple_getitem ht.typeIs entry_tuple_getitem ?_ (args_tuple_getitem _ _)))))
  show wpAny _ _ (Builtin.Tuple.tupleItemsOf (.ref t) >>= _) _ _ s
  refine wpAny_bind (tupleItemsOf_ ht (wpAny_bind (wpAny_typeOf hTs ?_)))
  rw [if_pos (by decide)]
  refine wpAny_bind ?_
  unfold Builtin.Slice.sliceApplied Builtin.Slice.sliceFields
  refine wpAny_bind (wpAny_bind (wpAny_field hos hds (x := .none) rfl (wpAny_bind (wpAny_field hos hds (x := .none) rfl (wpAny_bind (wpAny_field hos hds (x := vs) rfl (wpAny_pure ?_)))))))
  refine wpAny_bind (HT.slicePart_ ps ?_)
  show wpAny _ _ (if ((-1 : Int) == 0) = true then _ else _) _ _ s
  rw [if_neg (by decide)]
  refine wpAny_bind (HT.slicePart_ .none (wpAny_bind (HT.slicePart_ .none (wpAny_bind (wpAny_pure ?_)))))
  show wpAny _ _ (match Builtin.Slice.sliceAdjust none none (-1) (items.size : Int) with | (lo, hi) => pure (lo, (-1 : Int), Builtin.Slice.slicePlaces lo hi (-1))) _ _ s
  rw [adj_rev]
  show wpAny _ _ (pure ((items.size : Int) - 1, (-1 : Int), Builtin.Slice.slicePlaces ((items.size : Int) - 1) (-1) (-1))) _ _ s
  rw [places_rev]
  refine wpAny_pure ?_
  show wpAny _ _ (if (((items.size : Int) - 1) == 0 && (-1 : Int) == 1 && items.size == items.size) = true then _ else _) _ _ s
  rw [if_neg (by simp), pick_rev]
  first
    | exact wpAny_bind (m := Builtin.Tuple.tupleExact _) (wpAny_newObj_type (wpAny_pure ⟨_, rfl, wpAny_pure h⟩) hok)
    | exact wpAny_bind (m := Builtin.Tuple.tupleExact _) (wpAny_newObj_type (wpAny_bind (wpAny_pure (wpAny_pure ⟨_, rfl, wpAny_pure h⟩))) hok)
    | exact wpAny_bind (wpAny_bind (m := Builtin.Tuple.tupleExact _) (wpAny_newObj_type (wpAny_pure (wpAny_pure ⟨_, rfl, wpAny_pure h⟩)) hok))
    | exact wpAny_bind (wpAny_bind (m := Builtin.Tuple.tupleExact _) (wpAny_newObj_type (wpAny_pure ⟨_, rfl, wpAny_pure h⟩) hok))
end
theorem pe_revT {e : Expr} {te : TE} {k : Nat} {p1 p2 p3 pos : Pos} (he : PE X e te) : PE X (.Subscript e (.Slice none none (some (.UnaryOp .USub (.Constant (.int 1) k p1) p2)) p3) pos) (fun σ H Q => te σ H fun x H1 => ∃ a xs, x = .ref a ∧ SqT X.K H1 a xs ∧ ∀ p, H1 p = none → Q (.ref p) (upd H1 p (.tup xs.reverse))) := by
  refine ⟨fun pins s σ H Q I h => Subscript_ (thn (he.run pins s σ H _ I h) fun v s1 ⟨x, H1, I1, r1, a, xs, ex, hx, q⟩ => ?_)⟩
  subst ex
  cases r1
  have hst : PO X (some (.UnaryOp .USub (.Constant (.int 1) k p1) p2)) (tPart (tUn (rU fun i => .int (-i)) (tC (.int 1)))) := po_some (pe_un un_neg pe_int)
  refine wpAny_Slice (thn (po_none.run pins s1 σ H1 (fun o H2 => o = none ∧ H2 = H1) I1 ⟨rfl, rfl⟩) fun vl s2 ⟨l, H2, I2, pl, el, e2⟩ => ?_)
  subst el e2
  refine thn (po_none.run pins s2 σ H2 (fun o H3 => o = none ∧ H3 = H2) I2 ⟨rfl, rfl⟩) fun vu s3 ⟨u, H3, I3, pu, eu, e3⟩ => ?_
  subst eu e3
  refine thn (hst.run pins s3 σ H3 (fun o H4 => o = some (-1) ∧ H4 = H3) I3 ⟨1, rfl, -1, rfl, rfl, rfl⟩) fun vs s4 ⟨o, H4, I4, ps, eo, e4⟩ => ?_
  subst eo e4
  cases pl
  cases pu
  have I5 : Inv X pins σ H4 { s4 with heap := s4.heap.push { cls := .type "slice", data := .fields #[.none, .none, vs] } } := I4.kept (t' := s4.toks) fun b ob q => Heap.get?_push_of_some _ q
  obtain ⟨its, r, ht, hz⟩ := I5.tuple hx
  have hlen := r.length
  show wpAny (model X.prog X.w) X.A (subscriptTail e (.Slice none none (some (.UnaryOp .USub (.Constant (.int 1) k p1) p2)) p3) (.ref a) (.ref s4.heap.objs.size)) (EP X pins σ Q) X.xe { s4 with heap := s4.heap.push { cls := .type "slice", data := .fields #[.none, .none, vs] } }
  refine tail_any (ops := [.ref a, .ref s4.heap.objs.size]) ht.typeIs PyProof.Rows.slot_tuple_getitem.lookup ?_ (by with_unfolding_all rfl)
  refine getItem_tuple_rev ht (Heap.IsSliceOf.new _ .none .none vs) ps ?_ (by rw [List.size_toArray]; omega)
  refine ⟨.ref _, _, I5.laid (t' := s4.toks) (o := .tup xs.reverse) (fun b ob q => Heap.get?_push_of_some _ q) (Nat.le_refl _) ?_, rfl, q _ (I5.hok.fresh (Nat.le_refl _))⟩
  exact ⟨by rw [List.length_reverse]; exact hz, _, r.reverse, _, Heap.get?_push_size _ rfl, rfl, 0, by simp⟩
theorem sn_rev {a : E} {e : Expr} {k : Nat} {p1 p2 p3 pos : Pos} (ha : PE X e (rdE X.K g cs lv Wx a)) : PE X (.Subscript e (.Slice none none (some (.UnaryOp .USub (.Constant (.int 1) k p1) p2)) p3) pos) (rdE X.K g cs lv Wx (.rev a)) := by
  refine ⟨fun pins s0 σ H Q I ⟨W, s, r, ok, en, h⟩ => ?_⟩
  have h' := Post.eq (Post.bnd h) fun _ _ _ _ _ _ _ _ => trivial
  by_cases hk : ∃ ds s1, evE cs r a lv s = .ok (.tup ds) s1
  · obtain ⟨ds, s1, e⟩ := hk
    refine (pe_revT ha).run pins s0 σ H Q I ⟨W, s, r, ok, en, h'.mono fun y s2 W1 H1 x1 ok1 h1 v rv => ?_⟩
    obtain ⟨e2, h1⟩ := h1
    rw [e] at e2; cases e2
    obtain ⟨a', vs, rfl, hp, r1⟩ := rv
    exact ⟨a', vs, rfl, sqT_H ok1 hp, fun p hp => ans_tup ok1 r1.rev hp h1⟩
  · refine (pe_revL ha).run pins s0 σ H Q I ⟨W, s, r, ok, en, h'.mono fun y s2 W1 H1 x1 ok1 h1 v rv => ?_⟩
    obtain ⟨e2, h1⟩ := h1
    cases y with
    | lst ds =>
      obtain ⟨a', vs, rfl, hp, r1⟩ := rv
      exact ⟨a', vs, rfl, sqL_H ok1 hp, fun p hp => ans_lst ok1 r1.rev hp h1⟩
    | tup ds => exact (hk ⟨ds, s2, e2⟩).elim
    | _ => exact h1.elim
/-! ### a call of what a name holds -/
theorem fns_get (go : GOk X.prog X.w X.K X.mg X.base g t cs lv) (hl : t.fns.length = g.fa.length) {f : Nat} {a : Addr} (h : g.fa[f]? = some a) : ∃ fd ps, PySem.W.keepIn X.K (.ref a) = true ∧ Binds X.K fd ps [] ∧ FnOk X.prog X.w X.K X.mg X.base (L2N.CX X.prog X.w) lv a fd ps (spC X.K g cs lv f) := by
  have hf : f < t.fns.length := by rw [hl]; exact (List.getElem?_eq_some_iff.mp h).1
  obtain ⟨b, fd, ps, e1, _, hk, hb, F⟩ := go.fn lv (Nat.le_refl _) f _ (List.getElem?_eq_getElem hf)
  rw [h] at e1; cases e1
  exact ⟨fd, ps, hk, hb, F⟩
theorem pe_callLS {CX : CXT} {k i : Nat} {f : Addr} {fd : FuncData} {ps : List Str} {sp : Sp} {E : L2.St → XK} {x : Str} {p pos : Pos} {e : Expr} {es : List Expr} {t : TA} (F : FnOk X.prog X.w X.K X.mg X.base CX k f fd ps sp) (hr : Room k X.A) (hN : X.N[i]? = some x) (hv : Vis X.env.scope x)
    (hk : PySem.W.keepIn X.K (.ref f) = true) (hb : Binds X.K fd ps []) (hx : ∀ σ, PassesAt CX X σ (E σ)) (ha : PA X (e :: es) t) (hdb : (x == ("__debug__" : Str)) = false) (hcd : (x == ("__classdict__" : Str)) = false)
    (he : starEach (e :: es) X.env = (false, eval e X.env) :: starEach es X.env) (hpl : (backTo pos (starEach es X.env)).any (·.1) = false) : PE X (.Call (.Name x p) (e :: es) [] pos) (fun σ H Q => σ[i]? = some (some (.ref f)) ∧ tCallS sp E t σ H Q) := by
  refine ⟨fun pins s σ H Q I ⟨hs, ht⟩ => ?_⟩
  refine wpAny_Call_Name_kw (thn ((pe_var (pos := p) hN hv hdb hcd).run pins s σ H (fun v H1 => v = .ref f ∧ H1 = H) I ⟨.ref f, hs, rfl, rfl⟩) fun u s1 ⟨v, H1, I1, r1, e1, e2⟩ => ?_)
  subst e1 e2
  cases r1
  exact PySem.W.callWith_K (h₀ := X.base) I.ok.mod.kin hk (thn (ha.run pos pins s1 σ _ _ I1 ht) fun us s2 ⟨vs, H2, I2, r, q⟩ => ⟨I2.kIn, run_fnS F hr hb (hx σ) I2 r q⟩) he hpl
theorem sn_clv (go : GOk X.prog X.w X.K X.mg X.base g t cs lv) (xo : XOk g X c Wx lv) {i : Nat} {es : Es} {xs : List Expr} {x : Str} {p pos : Pos} (hx : slotB c i x = true) (hst : xs.all noStar = true) (hne : xs ≠ []) (ha : PA X xs (rdEs X.K g cs lv Wx es)) :
    PE X (.Call (.Name x p) xs [] pos) (rdE X.K g cs lv Wx (.clv i es)) := by
  obtain ⟨h1, h2, h3, h4⟩ := slotB_ok hx
  cases xs with
  | nil => exact (hne rfl).elim
  | cons e es' =>
    obtain ⟨s1, s2⟩ := ba (show (noStar e && es'.all noStar) = true by simpa using hst)
    refine ⟨fun pins s0 σ H Q I ⟨W, s, r, ok, en, h⟩ => ?_⟩
    unfold evE at h
    split at h
    · rename_i f hr
      obtain ⟨v, e1, a, ev, hfa⟩ := en.at_ i _ hr
      subst ev
      obtain ⟨fd, ps, hk, hb, F⟩ := fns_get go go.ln hfa
      have hp := pe_callLS (p := p) (pos := pos) F xo.room (i := i) (by rw [xo.N]; exact h1) (by rw [xo.sc]; exact h2) hk hb (fun σ => L2N.passAt xo.tk σ) ha h3 h4 (star_no s1) (star_all s2)
      exact hp.run pins s0 σ H Q I ⟨e1, W, s, r, ok, en, (Post.bnd h).mono fun ds s1 W1 H1 x1 ok1 h1 vs rv => ⟨W1, s1, ds, ok1, rv, h1⟩⟩
    · exact h.elim
end
end Tw
end
section
/-! Part Y: a lambda tried. -/
namespace Tw
open PySem PySem.Spec PyProof.Rows L2
theorem GOk.mono {P : Program} {w : World} {K : PySem.W.Frag} {mg : Str → Option Value} {base : Heap} {g : Ga} {t : Tn} {cs : Cs} {k lv : Nat} (go : GOk P w K mg base g t cs lv) (h : k ≤ lv) : GOk P w K mg base g t cs k :=
  ⟨fun m hm => go.fn m (Nat.le_trans hm h), go.blt, go.cst, go.exc, go.tr, go.ln, go.tm⟩
section
variable {X : Cx} {c : Cc} {t : Tn} {g : Ga} {cs : Cs} {Wx : WX} {k : Nat}
theorem kept_extN {H H1 : Hp} (e : LamX.ExtN H H1) : Kept H H1 := Kept.of e
theorem lam_xb (xb : XB X c) {A : Around} {outer : List Env} {s : Shared} {H : Hp} {E : XK} {sc : Scope} {f c' : Addr} (L : LamX.LamS X.env.scope sc) (hr : Room k (A.deeper (LamX.lamEnv X sc s.heap.objs.size f c'))) :
    XOk g (lamX X A outer s H E sc f c') ⟨c.N, sc, some sc, false⟩ (fun cls d _ H => E cls d H) k where
  N := xb.N
  nd := xb.nd
  sc := rfl
  fn := fun x h => by
    have h' : decide (sc.names.lookup x = some .cell) = true := h
    exact absurd rfl (L.own _ (PySem.mem_of_lookup (of_decide_eq_true h'))).2
  calm := rfl
  room := hr
  tk := takes_lam
  lam := fun h => by cases h
theorem noPs_ok {ps : Arguments} (h : noPs ps = true) : ps = ⟨[], [], none, [], [], none, []⟩ := by
  unfold noPs at h
  split at h
  · rfl
  · cases h
/-- what comes of it by the evaluator -/
theorem try_read {a : E} {W : Wd} {s : S} {r : Rho} {σ : L2.St} {H H1 : Hp} {Q : VK} (ok : Ok X.K g W s H) (en : EnvR X.K g W H r σ) (h : Post X.K g W H (triD (evE cs r a k s)) (fun d _ W' H' => ∀ v, Rep X.K g W' d v → Q v H') (fun c dd H' => Wx c dd σ H')) (e : LamX.ExtN H H1) (t1 : LamX.Tabs g.T H1) :
    TTry X.K g (fun E H' Q' => rdE X.K g cs k (fun cls d _ H => E cls d H) a σ H' Q') H1 Q := by
  have kp := kept_extN e
  have x1 := kp.ext W
  refine ⟨t1, fun E1 R1 hE hR => ⟨W, s, r, kp.ok ok t1, en.ext x1, ?_⟩⟩
  revert h
  cases evE cs r a k s with
  | bad => exact fun h => h
  | ok d s1 =>
    intro h W' H' x2 ok2 v rv
    refine hR _ _ ⟨ok2.tab, fun p hp => ?_⟩
    exact h _ _ ((x1.trans x2).trans (.alloc (ok2.unF hp) hp)) (ok2.alloc hp) _ (rep_tup (ok2.unF hp) (.cons (d := .str "told") (v := .str "told") rfl (.one rv)))
  | ex x s1 =>
    intro h W' H' cls dd x2 ok2 hx
    obtain ⟨xc, lim⟩ := x
    have h : Post X.K g W H (match kinW xc, lim with
      | some w, none => if xc = 11 then .bad else .ok (.str w) s1
      | some w, some i => if xc = 11 then .ok (.tup [.str w, .int i]) s1 else .bad
      | none, _ => .bad) (fun d _ W' H' => ∀ v, Rep X.K g W' d v → Q v H') (fun c dd H' => Wx c dd σ H') := h
    refine hE _ _ _ ⟨ok2.tab, xc, lim, ?_⟩
    cases hw : kinW xc with
    | none => rw [hw] at h; exact h.elim
    | some w =>
      rw [hw] at h
      refine ⟨w, hx, rfl, ?_⟩
      cases lim with
      | none =>
        dsimp only at h ⊢
        by_cases z : xc = 11
        · rw [if_pos z] at h; exact h.elim
        · rw [if_neg z] at h
          exact ⟨z, fun H2 k2 t2 => h _ _ ((x1.trans x2).trans (k2.ext W')) (k2.ok ok2 t2) _ rfl⟩
      | some i =>
        dsimp only at h ⊢
        by_cases z : xc = 11
        · rw [if_pos z] at h
          refine ⟨z, fun H2 p k2 t2 hp => ?_⟩
          have ok3 := k2.ok ok2 t2
          exact h _ _ (((x1.trans x2).trans (k2.ext W')).trans (.alloc (ok3.unF hp) hp)) (ok3.alloc hp) _ (rep_tup (ok3.unF hp) (.cons (d := .str w) (v := .str w) rfl (.one (d := .int i) (v := .int i) rfl)))
        · rw [if_neg z] at h; exact h.elim
theorem sn_trl (go : GOk X.prog X.w X.K X.mg X.base g t cs (k + 2)) (xo : XOk g X c Wx (k + 2)) {a : E} {ps : Arguments} {e : Expr} {sc : Scope} {p lpos pos : Pos} (ht : t.tr = true) (hg : glB c.sc ("_law_try" : Str) = true) (hl : c.lam = true) (hn : noPs ps = true) (hs : LamX.lamSB c.sc sc = true)
    (hb : ∀ (A : Around) (outer : List Env) (s : Shared) (H : Hp) (E : XK) (f c' : Addr), Room k (A.deeper (LamX.lamEnv X sc s.heap.objs.size f c')) → PE (lamX X A outer s H E sc f c') e (rdE X.K g cs k (fun cls d _ H => E cls d H) a)) :
    PE X (.Call (.Name ("_law_try" : Str) p) [.Lambda ps e sc lpos] [] pos) (rdE X.K g cs (k + 2) Wx (.trl a)) := by
  obtain ⟨ga, pg, bg, sg, dV, kV, doc, pm, cdv, ct, oc, an, od, osl, Ng, hm, hk, lk, hcg, hbn, Sg, hN, hv, G⟩ := go.tr ht
  obtain ⟨co, P, hco, TB, hmT, hu⟩ := xo.lam hl
  have L : LamX.LamS X.env.scope sc := by rw [xo.sc]; exact LamX.lamS_by hs
  have e0 := noPs_ok hn
  subst e0
  refine PE.of (pe_lamN (k := k) (T := g.T) (TT := TTry X.K g) (t := fun E => rdE X.K g cs k (fun cls d _ H => E cls d H) a) (glB_ok xo.toXB hg) hm hk lk hcg hbn Sg hN hv (G X _ k rfl rfl rfl rfl rfl) TB hco hmT hu xo.room L rfl (fun _ _ _ _ _ => by kernel_rfl) hb (by decide) (by decide) (by decide)) fun σ H Q ⟨W, s, r, ok, en, h⟩ => ?_
  exact ⟨ok.tab, fun H1 eN t1 => try_read (Wx := Wx) ok en h eN t1⟩
end
end Tw
end
section
/-! Part J: every slim expression that fits. -/
namespace Tw
open PySem PySem.Spec PyProof.Rows L2
section
variable {t : Tn} {g : Ga} {cs : Cs}
/-- as a value, as a test -/
def SndM (X : Cx) (g : Ga) (cs : Cs) (lv : Nat) (Wx : WX) (m : Bool) (e : E) (ex : Expr) : Prop := if m = true then PT X ex (rdT X.K g cs lv Wx e) else PE X ex (rdE X.K g cs lv Wx e)
theorem SndM.of {lv : Nat} {X : Cx} {Wx : WX} {m : Bool} {e : E} {ex : Expr} (hp : plainT ex = true) (h : PE X ex (rdE X.K g cs lv Wx e)) : SndM X g cs lv Wx m e ex := by
  unfold SndM
  cases m with
  | true => rw [if_pos rfl]; exact pt_from hp h
  | false => rw [if_neg Bool.false_ne_true]; exact h
theorem SndM.val {lv : Nat} {X : Cx} {Wx : WX} {m : Bool} {e : E} {ex : Expr} (hm : (!m) = true) (h : PE X ex (rdE X.K g cs lv Wx e)) : SndM X g cs lv Wx m e ex := by
  cases m with
  | true => cases hm
  | false => unfold SndM; rw [if_neg Bool.false_ne_true]; exact h
theorem SndM.pe {lv : Nat} {X : Cx} {Wx : WX} {e : E} {ex : Expr} (h : SndM X g cs lv Wx false e ex) : PE X ex (rdE X.K g cs lv Wx e) := by
  unfold SndM at h; rw [if_neg Bool.false_ne_true] at h; exact h
theorem SndM.pt {lv : Nat} {X : Cx} {Wx : WX} {e : E} {ex : Expr} (h : SndM X g cs lv Wx true e ex) : PT X ex (rdT X.K g cs lv Wx e) := by
  unfold SndM at h; rw [if_pos rfl] at h; exact h
theorem SndM.two {lv : Nat} {X : Cx} {Wx : WX} {m : Bool} {e : E} {ex : Expr} (h1 : PE X ex (rdE X.K g cs lv Wx e)) (h2 : PT X ex (rdT X.K g cs lv Wx e)) : SndM X g cs lv Wx m e ex := by
  cases m with
  | true => unfold SndM; rw [if_pos rfl]; exact h2
  | false => unfold SndM; rw [if_neg Bool.false_ne_true]; exact h1
theorem PE.no {X : Cx} {e : Expr} {t : TE} (h : ∀ σ H Q, ¬ t σ H Q) : PE X e t := ⟨fun _ _ σ H Q _ q => (h σ H Q q).elim⟩
theorem notT {b : Bool} (h : (!b) = true) : b = false := by cases b <;> first | rfl | cases h
theorem GOk.blk {lv : Nat} {X : Cx} (go : GOk X.prog X.w X.K X.mg X.base g t cs lv) (sc : Scope) (s : Shared) (H : Hp) (env : Env) (fp : List Addr) :
    GOk (X.blk s H sc env fp).prog (X.blk s H sc env fp).w (X.blk s H sc env fp).K (X.blk s H sc env fp).mg (X.blk s H sc env fp).base g t cs lv := go
mutual
theorem sndE : ∀ (e : E) {lv : Nat} {X : Cx} {c : Cc} {Wx : WX} (go : GOk X.prog X.w X.K X.mg X.base g t cs lv) (xo : XOk g X c Wx lv) (m : Bool) (ex : Expr), chkE t c m e ex = true → SndM X g cs lv Wx m e ex
  | .var i, lv, X, c, Wx, go, xo, m, ex, h => by
    unfold chkE at h
    split at h <;> first | contradiction | skip
    exact .of rfl (sn_var xo.toXB h)
  | .non, lv, X, c, Wx, go, xo, m, ex, h => by
    unfold chkE at h
    split at h <;> first | contradiction | skip
    exact .of rfl (sn_c pe_non (fun _ _ => rfl) fun _ => rfl)
  | .bl b, lv, X, c, Wx, go, xo, m, ex, h => by
    unfold chkE at h
    split at h <;> first | contradiction | skip
    have e := of_decide_eq_true h
    subst e
    exact .of rfl (sn_c pe_bl (fun _ _ => rfl) fun _ => rfl)
  | .int i, lv, X, c, Wx, go, xo, m, ex, h => by
    unfold chkE at h
    split at h <;> first | contradiction | skip
    have e := of_decide_eq_true h
    subst e
    exact .of rfl (sn_c pe_int (fun _ _ => rfl) fun _ => rfl)
  | .str x, lv, X, c, Wx, go, xo, m, ex, h => by
    unfold chkE at h
    split at h <;> first | contradiction | skip
    have e := of_decide_eq_true h
    subst e
    exact .of rfl (sn_c pe_str (fun _ _ => rfl) fun _ => rfl)
  | .gint x i, lv, X, c, Wx, go, xo, m, ex, h => by
    unfold chkE at h
    split at h <;> first | contradiction | skip
    obtain ⟨h, h4⟩ := ba h
    obtain ⟨h, h3⟩ := ba h
    obtain ⟨h1, h2⟩ := ba h
    have e := of_decide_eq_true h1
    subst e
    obtain ⟨tk, e⟩ := go.cst x i (of_decide_eq_true h3)
    exact .of rfl (sn_c (v := .int i) (pe_glob (glB_ok xo.toXB h2) e ⟨tk, rfl⟩ (nmOk_ok h4).1) (fun _ _ => rfl) fun _ => rfl)
  | .gfn f, lv, X, c, Wx, go, xo, m, ex, h => by
    unfold chkE at h
    split at h <;> first | contradiction | skip
    obtain ⟨h, h3⟩ := ba h
    obtain ⟨h1, h2⟩ := ba h
    obtain ⟨a, fd, ps, e1, hm, _⟩ := go.fn lv (Nat.le_refl _) f _ (of_decide_eq_true h1)
    exact .of rfl (sn_c (v := .ref a) (pe_glob (glB_ok xo.toXB h2) hm rfl (nmOk_ok h3).1) (fun _ _ => rfl) fun _ => ⟨a, rfl, e1⟩)
  | .bin op a b, lv, X, c, Wx, go, xo, m, ex, h => by
    unfold chkE at h
    split at h <;> first | contradiction | skip
    obtain ⟨h, h3⟩ := ba h
    obtain ⟨h1, h2⟩ := ba h
    have e := of_decide_eq_true h1
    subst e
    exact .of rfl (sn_bin (sndE a go xo false _ h2).pe (sndE b go xo false _ h3).pe)
  | .neg a, lv, X, c, Wx, go, xo, m, ex, h => by
    unfold chkE at h
    split at h <;> first | contradiction | skip
    exact .of rfl (sn_neg (sndE a go xo false _ h).pe)
  | .cmp op a b, lv, X, c, Wx, go, xo, m, ex, h => by
    unfold chkE at h
    split at h <;> first | contradiction | skip
    obtain ⟨h, h4⟩ := ba h
    obtain ⟨h, h3⟩ := ba h
    obtain ⟨h1, h2⟩ := ba h
    have e := of_decide_eq_true h1
    subst e
    have hm := notT h2
    exact .two (sn_cmp xo.room hm (sndE a go xo false _ h3).pe (sndE b go xo false _ h4).pe) (snT_cmp xo.room hm (sndE a go xo false _ h3).pe (sndE b go xo false _ h4).pe)
  | .ch2 op op' a b d, lv, X, c, Wx, go, xo, m, ex, h => by
    unfold chkE at h
    split at h <;> first | contradiction | skip
    obtain ⟨h, h6⟩ := ba h
    obtain ⟨h, h5⟩ := ba h
    obtain ⟨h, h4⟩ := ba h
    obtain ⟨h, h3⟩ := ba h
    obtain ⟨h1, h2⟩ := ba h
    have e := of_decide_eq_true h1
    have e' := of_decide_eq_true h2
    subst e e'
    have hm := notT h3
    exact .two (sn_ch2 xo.room hm (sndE a go xo false _ h4).pe (sndE b go xo false _ h5).pe (sndE d go xo false _ h6).pe) (snT_ch2 xo.room hm (sndE a go xo false _ h4).pe (sndE b go xo false _ h5).pe (sndE d go xo false _ h6).pe)
  | .ch3 op op' op'' a b d e, lv, X, c, Wx, go, xo, m, ex, h => by
    unfold chkE at h
    split at h <;> first | contradiction | skip
    obtain ⟨h, h9⟩ := ba h
    obtain ⟨h, h8⟩ := ba h
    obtain ⟨h, h7⟩ := ba h
    obtain ⟨h, h6⟩ := ba h
    obtain ⟨h, h5⟩ := ba h
    obtain ⟨h, h4⟩ := ba h
    obtain ⟨h, h3⟩ := ba h
    obtain ⟨h1, h2⟩ := ba h
    have e1 := of_decide_eq_true h2
    have e2 := of_decide_eq_true h3
    have e3 := of_decide_eq_true h4
    subst e1 e2 e3
    have hm := notT h5
    subst h1
    unfold SndM
    rw [if_pos rfl]
    exact snT_ch3 xo.room hm (sndE a go xo false _ h6).pe (sndE b go xo false _ h7).pe (sndE d go xo false _ h8).pe (sndE e go xo false _ h9).pe
  | .nt a, lv, X, c, Wx, go, xo, m, ex, h => by
    unfold chkE at h
    split at h <;> first | contradiction | skip
    cases m with
    | true => unfold SndM; rw [if_pos rfl]; exact snT_nt (sndE a go xo true _ h).pt
    | false => unfold SndM; rw [if_neg Bool.false_ne_true]; exact sn_nt (sndE a go xo false _ h).pe
  | .an a b, lv, X, c, Wx, go, xo, m, ex, h => by
    unfold chkE at h
    split at h <;> first | contradiction | skip
    · obtain ⟨h1, h2⟩ := ba h
      cases m with
      | true => unfold SndM; rw [if_pos rfl]; exact snT_an (sndE a go xo true _ h1).pt (pw_and1 (sndE b go xo true _ h2).pt)
      | false => unfold SndM; rw [if_neg Bool.false_ne_true]; exact sn_an (sndE a go xo false _ h1).pe (pe_one (sndE b go xo false _ h2).pe)
    · obtain ⟨h1, h2⟩ := ba h
      cases m with
      | true => unfold SndM; rw [if_pos rfl]; exact snT_an (sndE a go xo true _ h1).pt (pw_of (sndE b go xo true _ h2).pt)
      | false => unfold SndM; rw [if_neg Bool.false_ne_true]; exact sn_an (sndE a go xo false _ h1).pe (sndE b go xo false _ h2).pe
  | .or a b, lv, X, c, Wx, go, xo, m, ex, h => by
    unfold chkE at h
    split at h <;> first | contradiction | skip
    · obtain ⟨h1, h2⟩ := ba h
      cases m with
      | true => unfold SndM; rw [if_pos rfl]; exact snT_or (sndE a go xo true _ h1).pt (pw_or1 (sndE b go xo true _ h2).pt)
      | false => unfold SndM; rw [if_neg Bool.false_ne_true]; exact sn_or (sndE a go xo false _ h1).pe (pe_one (sndE b go xo false _ h2).pe)
    · obtain ⟨h1, h2⟩ := ba h
      cases m with
      | true => unfold SndM; rw [if_pos rfl]; exact snT_or (sndE a go xo true _ h1).pt (pw_of (sndE b go xo true _ h2).pt)
      | false => unfold SndM; rw [if_neg Bool.false_ne_true]; exact sn_or (sndE a go xo false _ h1).pe (sndE b go xo false _ h2).pe
  | .ite q a b, lv, X, c, Wx, go, xo, m, ex, h => by
    unfold chkE at h
    split at h <;> first | contradiction | skip
    obtain ⟨h, h4⟩ := ba h
    obtain ⟨h, h3⟩ := ba h
    obtain ⟨h1, h2⟩ := ba h
    exact .val h1 (sn_ite (sndE q go xo true _ h2).pt (sndE a go xo false _ h3).pe (sndE b go xo false _ h4).pe)
  | .tup es, lv, X, c, Wx, go, xo, m, ex, h => by
    unfold chkE at h
    split at h <;> first | contradiction | skip
    obtain ⟨h1, h2⟩ := ba h
    exact .val h1 (sn_tup (sndEs es go xo _ h2))
  | .lst es, lv, X, c, Wx, go, xo, m, ex, h => by
    unfold chkE at h
    split at h <;> first | contradiction | skip
    obtain ⟨h1, h2⟩ := ba h
    exact .val h1 (sn_lst (sndEs es go xo _ h2))
  | .idx a i, lv, X, c, Wx, go, xo, m, ex, h => by
    unfold chkE at h
    split at h <;> first | contradiction | skip
    obtain ⟨h, h3⟩ := ba h
    obtain ⟨h1, h2⟩ := ba h
    exact .of rfl (sn_idx h1 (sndE a go xo false _ h2).pe (sndE i go xo false _ h3).pe)
  | .oidx i j, lv, X, c, Wx, go, xo, m, ex, h => by
    unfold chkE at h
    split at h <;> first | contradiction | skip
    obtain ⟨h, h3⟩ := ba h
    obtain ⟨h1, h2⟩ := ba h
    exact .of rfl (sn_oidx xo h1 h2 (sndE j go xo false _ h3).pe)
  | .oln i, lv, X, c, Wx, go, xo, m, ex, h => by
    unfold chkE at h
    split at h <;> first | contradiction | skip
    obtain ⟨h1, h2⟩ := ba h
    exact .of rfl (sn_oln go xo (sorts_ok xo.room xo.calm) h1 h2)
  | .sl a lo hi, lv, X, c, Wx, go, xo, m, ex, h => by
    unfold chkE at h
    split at h <;> first | contradiction | skip
    obtain ⟨h, h4⟩ := ba h
    obtain ⟨h, h3⟩ := ba h
    obtain ⟨h1, h2⟩ := ba h
    exact .val h1 (sn_sl (sndE a go xo false _ h2).pe (sndO lo go xo _ h3) (sndO hi go xo _ h4))
  | .rev a, lv, X, c, Wx, go, xo, m, ex, h => by
    unfold chkE at h
    split at h <;> first | contradiction | skip
    obtain ⟨h1, h2⟩ := ba h
    exact .val h1 (sn_rev (sndE a go xo false _ h2).pe)
  | .clv i es, lv, X, c, Wx, go, xo, m, ex, h => by
    unfold chkE at h
    split at h <;> first | contradiction | skip
    obtain ⟨h, h4⟩ := ba h
    obtain ⟨h, h3⟩ := ba h
    obtain ⟨h1, h2⟩ := ba h
    exact .of rfl (sn_clv go xo h1 h2 (fun e => by rw [e] at h3; cases h3) (sndEs es go xo _ h4))
  | .isx _ _, lv, X, c, Wx, go, xo, m, ex, h => by unfold chkE at h; cases h
  | .isv _, lv, X, c, Wx, go, xo, m, ex, h => by unfold chkE at h; cases h
  | .spl a z, lv, X, c, Wx, go, xo, m, ex, h => by
    unfold chkE at h
    split at h <;> first | contradiction | skip
    obtain ⟨h, h4⟩ := ba h
    obtain ⟨h, h3⟩ := ba h
    obtain ⟨h1, h2⟩ := ba h
    have e1 := of_decide_eq_true h1
    have e2 := of_decide_eq_true h2
    subst e1 e2
    exact .of rfl (sn_spl (sndE a go xo false _ h4).pe h3)
  | .jn z a, lv, X, c, Wx, go, xo, m, ex, h => by
    unfold chkE at h
    split at h <;> first | contradiction | skip
    obtain ⟨h, h5⟩ := ba h
    obtain ⟨h, h4⟩ := ba h
    obtain ⟨h, h3⟩ := ba h
    obtain ⟨h1, h2⟩ := ba h
    have e1 := of_decide_eq_true h1
    have e2 := of_decide_eq_true h2
    subst e1 e2
    exact .of rfl (sn_jn h4 (sndE a go xo false _ h5).pe h3)
  | .trl a, lv, X, c, Wx, go, xo, m, ex, h => by
    unfold chkE at h
    split at h <;> first | contradiction | skip
    rename_i p ps e sc lpos pos
    obtain ⟨h, h7⟩ := ba h
    obtain ⟨h, h6⟩ := ba h
    obtain ⟨h, h5⟩ := ba h
    obtain ⟨h, h4⟩ := ba h
    obtain ⟨h, h3⟩ := ba h
    obtain ⟨h1, h2⟩ := ba h
    have e1 := of_decide_eq_true h1
    subst e1
    refine .of rfl ?_
    match lv, go, xo with
    | 0, go, xo => exact PE.no fun σ H Q ⟨W, s, r, ok, en, h⟩ => h
    | 1, go, xo => exact PE.no fun σ H Q ⟨W, s, r, ok, en, h⟩ => h
    | k + 2, go, xo =>
      have L : LamX.LamS X.env.scope sc := by rw [xo.sc]; exact LamX.lamS_by h6
      exact sn_trl go xo h2 h3 h4 h5 h6 fun A outer s H E f c' hr => (sndE a (X := lamX X A outer s H E sc f c') (lv := k) (go.mono (by omega)) (lam_xb xo.toXB L hr) false _ h7).pe
  | .cal f es, lv, X, c, Wx, go, xo, m, ex, h => by
    unfold chkE at h
    split at h <;> first | contradiction | skip
    obtain ⟨h, h5⟩ := ba h
    obtain ⟨h, h4⟩ := ba h
    obtain ⟨h, h3⟩ := ba h
    obtain ⟨h1, h2⟩ := ba h
    exact .of rfl (sn_cal go xo (of_decide_eq_true h1) h2 h3 h4 h5 (sndEs es go xo _ h5))
  | .isi ts a, lv, X, c, Wx, go, xo, m, ex, h => by
    unfold chkE at h
    split at h <;> first | contradiction | skip
    obtain ⟨h, h6⟩ := ba h
    obtain ⟨h, h5⟩ := ba h
    obtain ⟨h, h4⟩ := ba h
    obtain ⟨h, h3⟩ := ba h
    obtain ⟨h1, h2⟩ := ba h
    exact .of rfl (sn_isi go xo h1 h2 h3 (sndE a go xo false _ h5).pe (of_decide_eq_true h4) h6)
  | .set a, lv, X, c, Wx, go, xo, m, ex, h => by
    unfold chkE at h
    split at h <;> first | contradiction | skip
    obtain ⟨h, h5⟩ := ba h
    obtain ⟨h, h4⟩ := ba h
    obtain ⟨h, h3⟩ := ba h
    obtain ⟨h1, h2⟩ := ba h
    exact .val h1 (sn_sset go xo h2 h3 h4 (sndE a go xo false _ h5).pe)
  | .bi b es, lv, X, c, Wx, go, xo, m, ex, h => by
    unfold chkE at h
    split at h <;> first | contradiction | skip
    obtain ⟨h, h5⟩ := ba h
    obtain ⟨h, h4⟩ := ba h
    obtain ⟨h, h3⟩ := ba h
    obtain ⟨h1, h2⟩ := ba h
    exact .of rfl (sn_bi go xo (sorts_ok xo.room xo.calm) (of_decide_eq_true h1) h2 h3 (sndEs es go xo _ h5) fun e => by rw [e] at h4; cases h4)
  | .lc own tg it q e, lv, X, c, Wx, go, xo, m, ex, h => by
    unfold chkE at h
    split at h <;> first | contradiction | skip
    obtain ⟨h, h10⟩ := ba h
    obtain ⟨h, h9⟩ := ba h
    obtain ⟨h, h8⟩ := ba h
    obtain ⟨h, h7⟩ := ba h
    obtain ⟨h, h6⟩ := ba h
    obtain ⟨h, h5⟩ := ba h
    obtain ⟨h, h4⟩ := ba h
    obtain ⟨h, h3⟩ := ba h
    obtain ⟨h1, h2⟩ := ba h
    have e := of_decide_eq_true h2
    subst e
    exact .val h1 (pe_fresh (sn_lcF xo h3 (fun i hi => of_decide_eq_true (List.all_eq_true.mp h4 i hi)) (fun i hi => of_decide_eq_true (List.all_eq_true.mp h5 i hi)) h6 (sndI it go xo _ _ h7) h8
      (fun s H C cls fp => sndC q (go.blk _ s H _ fp) (xo.blk _ s H C cls fp) _ h9) (fun s H C cls fp => (sndE e (go.blk _ s H _ fp) (xo.blk _ s H C cls fp) false _ h10).pe)))
theorem sndEs : ∀ (es : Es) {lv : Nat} {X : Cx} {c : Cc} {Wx : WX} (go : GOk X.prog X.w X.K X.mg X.base g t cs lv) (xo : XOk g X c Wx lv) (xs : List Expr), chkEs t c es xs = true → PA X xs (rdEs X.K g cs lv Wx es)
  | .nil, lv, X, c, Wx, go, xo, xs, h => by
    unfold chkEs at h
    split at h <;> first | contradiction | skip
    exact sn_nil
  | .cons e es, lv, X, c, Wx, go, xo, xs, h => by
    unfold chkEs at h
    split at h <;> first | contradiction | skip
    obtain ⟨h, h3⟩ := ba h
    obtain ⟨h1, h2⟩ := ba h
    exact sn_cons h1 (sndE e go xo false _ h2).pe (sndEs es go xo _ h3)
theorem sndO : ∀ (o : Eo) {lv : Nat} {X : Cx} {c : Cc} {Wx : WX} (go : GOk X.prog X.w X.K X.mg X.base g t cs lv) (xo : XOk g X c Wx lv) (x : Option Expr), chkO t c o x = true → PO X x (rdO X.K g cs lv Wx o)
  | .no, lv, X, c, Wx, go, xo, xs, h => by
    unfold chkO at h
    split at h <;> first | contradiction | skip
    exact sn_no
  | .so e, lv, X, c, Wx, go, xo, xs, h => by
    unfold chkO at h
    split at h <;> first | contradiction | skip
    exact sn_so (sndE e go xo false _ h).pe
theorem sndC : ∀ (o : Eo) {lv : Nat} {X : Cx} {c : Cc} (go : GOk X.prog X.w X.K X.mg X.base g t cs lv) (xo : XOk g X c WF lv) (x : List Expr), chkC t c o x = true → PTs X x (rdC X.K g cs lv o)
  | .no, lv, X, c, go, xo, xs, h => by
    unfold chkC at h
    split at h <;> first | contradiction | skip
    exact sn_c0
  | .so e, lv, X, c, go, xo, xs, h => by
    unfold chkC at h
    split at h <;> first | contradiction | skip
    exact sn_c1 (sndE e go xo true _ h).pt
theorem sndI : ∀ (it : It) {lv : Nat} {X : Cx} {c : Cc} {Wx : WX} (go : GOk X.prog X.w X.K X.mg X.base g t cs lv) (xo : XOk g X c Wx lv) (k x : Expr), chkI t c (isTup k) it x = true → PI X k x (rdI X.K g cs lv Wx it)
  | .seq a, lv, X, c, Wx, go, xo, k, x, h => by
    unfold chkI at h
    exact sn_seq (sndE a go xo false _ h).pe
  | .rng es, lv, X, c, Wx, go, xo, k, x, h => by
    unfold chkI at h
    split at h <;> first | contradiction | skip
    obtain ⟨h, h4⟩ := ba h
    obtain ⟨h, h3⟩ := ba h
    obtain ⟨h1, h2⟩ := ba h
    exact sn_rng go xo h1 h2 (of_decide_eq_true h3) h4 (sndEs es go xo _ h4)
  | .enm a, lv, X, c, Wx, go, xo, k, x, h => by
    unfold chkI at h
    split at h <;> first | contradiction | skip
    obtain ⟨h, h4⟩ := ba h
    obtain ⟨h, h3⟩ := ba h
    obtain ⟨h1, h2⟩ := ba h
    cases k <;> first | exact sn_enm go xo h2 h3 (sndE a go xo false _ h4).pe | cases h1
  | .zip a b, lv, X, c, Wx, go, xo, k, x, h => by
    unfold chkI at h
    split at h <;> first | contradiction | skip
    obtain ⟨h, h6⟩ := ba h
    obtain ⟨h, h5⟩ := ba h
    obtain ⟨h, h4⟩ := ba h
    obtain ⟨h, h3⟩ := ba h
    obtain ⟨h1, h2⟩ := ba h
    cases k <;> first | exact sn_zip go xo h2 h3 h4 (sndE a go xo false _ h5).pe (sndE b go xo false _ h6).pe | cases h1
end
end
end Tw
end
section
/-! Part K: statements. -/
namespace Tw
open PySem PySem.Spec PyProof.Rows L2
/-- the lists that no one else knows are new, and each by itself -/
structure OwnS (H0 : Hp) (r : Rho) (σ : L2.St) : Prop where
  new : ∀ (i : Nat) ds a, r[i]? = some (.own ds) → σ[i]? = some (some (.ref a)) → Fr H0 a
  inj : ∀ (i j : Nat) ds es a, r[i]? = some (.own ds) → r[j]? = some (.own es) → σ[i]? = some (some (.ref a)) → σ[j]? = some (some (.ref a)) → i = j
section
variable (K : PySem.W.Frag) (g : Ga) (cs : Cs) (lv : Nat) (Wx : WX) (W0 : Wd) (H0 : Hp)
def PostS (W : Wd) (o : Out Fl) (D : Ends) : Prop := match o with
  | .ok (.nx r') s' => ∀ W' H' σ', Le W W' → Ext W0 H0 W' H' → Ok K g W' s' H' → EnvR K g W' H' r' σ' → OwnS H0 r' σ' → D.nx σ' H'
  | .ok (.rt d) s' => ∀ W' H' v, Le W W' → Ext W0 H0 W' H' → Ok K g W' s' H' → Rep K g W' d v → D.rt v H'
  | .ex x s' => ∀ W' H' cls dd σ', Le W W' → Ext W0 H0 W' H' → Ok K g W' s' H' → XcR g H' x cls dd → Wx cls dd σ' H'
  | .bad => False
/-- where a statement stands -/
structure At (W : Wd) (s : S) (r : Rho) (σ : L2.St) (H : Hp) : Prop where
  ext : Ext W0 H0 W H
  ok : Ok K g W s H
  env : EnvR K g W H r σ
  own : OwnS H0 r σ
def rdS (st : St) : TS := fun D σ H => ∃ W s r, At K g W0 H0 W s r σ H ∧ PostS K g Wx W0 H0 W (exS cs st lv r s) D
def rdSs (sts : Ss) : TS := fun D σ H => ∃ W s r, At K g W0 H0 W s r σ H ∧ PostS K g Wx W0 H0 W (exSs cs sts lv r s) D
end
section
variable {X : Cx} {c : Cc} {t : Tn} {g : Ga} {cs : Cs} {Wx : WX} {lv : Nat} {W0 : Wd} {H0 : Hp}
theorem PostS.from {K : PySem.W.Frag} {W W1 : Wd} {o : Out Fl} {D : Ends} (h : PostS K g Wx W0 H0 W o D) (l : Le W W1) : PostS K g Wx W0 H0 W1 o D := by
  cases o with
  | ok a s' =>
    cases a with
    | nx r' => exact fun W' H' σ' l' => h W' H' σ' (l.trans l')
    | rt d => exact fun W' H' v l' => h W' H' v (l.trans l')
  | ex x s' => exact fun W' H' cls dd σ' l' => h W' H' cls dd σ' (l.trans l')
  | bad => exact h
/-- an expression first -/
theorem PostS.bnd {α : Type} {K : PySem.W.Frag} {W : Wd} {H : Hp} {σ : L2.St} {o : Out α} {f : α → S → Out Fl} {D : Ends} (x : Ext W0 H0 W H) (h : PostS K g Wx W0 H0 W (bnd o f) D) : Post K g W H o (fun a s1 W1 H1 => PostS K g Wx W0 H0 W1 (f a s1) D) (fun c dd H' => Wx c dd σ H') := by
  cases o with
  | ok a s1 => exact fun W1 H1 x1 ok1 => PostS.from h x1.le
  | ex z s1 => exact fun W1 H1 cls dd x1 ok1 q => h W1 H1 cls dd σ x1.le (x.trans x1) ok1 q
  | bad => exact h
theorem PostS.opt {α : Type} {K : PySem.W.Frag} {W : Wd} {o : Option α} {s1 : S} {f : α → Fl} {D : Ends} (h : PostS K g Wx W0 H0 W (opt (o.map f) s1) D) : ∃ a, o = some a ∧ PostS K g Wx W0 H0 W (.ok (f a) s1) D := by
  cases o with
  | none => exact h.elim
  | some a => exact ⟨a, rfl, h⟩
theorem At.ext' {K : PySem.W.Frag} {W W1 : Wd} {s s1 : S} {r : Rho} {σ : L2.St} {H H1 : Hp} (a : At K g W0 H0 W s r σ H) (x : Ext W H W1 H1) (ok : Ok K g W1 s1 H1) : At K g W0 H0 W1 s1 r σ H1 := ⟨a.ext.trans x, ok, a.env.ext x, a.own⟩
theorem At.nx {K : PySem.W.Frag} {W : Wd} {s : S} {r : Rho} {σ : L2.St} {H : Hp} {D : Ends} (a : At K g W0 H0 W s r σ H) (h : PostS K g Wx W0 H0 W (.ok (.nx r) s) D) : D.nx σ H := h W H σ (.refl W) a.ext a.ok a.env a.own
theorem PS.of {st : Stmt} {t t' : TS} (h : PS X st t) (f : ∀ D σ H, t' D σ H → t D σ H) : PS X st t' := ⟨fun pins s σ H D I q => h.run pins s σ H D I (f D σ H q)⟩
theorem PSs.of {st : List Stmt} {t t' : TS} (h : PSs X st t) (f : ∀ D σ H, t' D σ H → t D σ H) : PSs X st t' := ⟨fun pins s σ H D I q => h.run pins s σ H D I (f D σ H q)⟩
/-- a slot gets a value -/
theorem OwnS.set {r : Rho} {σ : L2.St} {i : Nat} {sl : Sl} {x : Option V} (o : OwnS H0 r σ) (h : ∀ ds, sl ≠ .own ds) : OwnS H0 (r.set i sl) (σ.set i x) := by
  have old : ∀ (j : Nat) ds, (r.set i sl)[j]? = some (.own ds) → r[j]? = some (.own ds) ∧ j ≠ i := fun j ds e => by
    by_cases z : j = i
    · subst z
      by_cases hl : j < r.length
      · rw [List.getElem?_set_self hl] at e; exact (h ds (Option.some.inj e)).elim
      · rw [List.getElem?_eq_none_iff.mpr (by simp; omega)] at e; cases e
    · rw [List.getElem?_set_ne (Ne.symm z)] at e; exact ⟨e, z⟩
  refine ⟨fun j ds a e1 e2 => ?_, fun j k ds es a e1 e2 e3 e4 => ?_⟩
  · obtain ⟨e, z⟩ := old j ds e1
    rw [List.getElem?_set_ne (Ne.symm z)] at e2
    exact o.new j ds a e e2
  · obtain ⟨f1, z1⟩ := old j ds e1
    obtain ⟨f2, z2⟩ := old k es e2
    rw [List.getElem?_set_ne (Ne.symm z1)] at e3
    rw [List.getElem?_set_ne (Ne.symm z2)] at e4
    exact o.inj j k ds es a f1 f2 e3 e4
theorem At.set {W : Wd} {s : S} {r : Rho} {σ : L2.St} {H : Hp} {i : Nat} {d : D} {v : V} (a : At X.K g W0 H0 W s r σ H) (rv : Rep X.K g W d v) (hi : i < r.length) : At X.K g W0 H0 W s (r.set i (.v d)) (σ.set i (some v)) H :=
  ⟨a.ext, a.ok, a.env.set rv hi, a.own.set fun ds z => nomatch z⟩
/-- a slot gets a list of its own -/
theorem At.setO {W : Wd} {s : S} {r : Rho} {σ : L2.St} {H : Hp} {i : Nat} {ds : List D} {vs : List V} {p : Addr} (a : At X.K g W0 H0 W s r σ H) (hi : i < r.length) (h1 : H p = some (.lst vs)) (rv : RepL X.K g W ds vs) (h2 : W.F p = none) (h3 : p ∉ W.B) (h4 : Fr H0 p)
    (h5 : ∀ (j : Nat) es, r[j]? = some (.own es) → j ≠ i → σ[j]? ≠ some (some (.ref p))) : At X.K g W0 H0 W s (r.set i (.own ds)) (σ.set i (some (.ref p))) H := by
  have hi' : i < σ.length := by rw [← a.env.len]; exact hi
  refine ⟨a.ext, a.ok, ⟨by simp [a.env.len], fun j sl e => ?_⟩, ⟨fun j es q e1 e2 => ?_, fun j k es fs q e1 e2 e3 e4 => ?_⟩⟩
  · by_cases z : j = i
    · subst z
      rw [List.getElem?_set_self hi] at e
      cases e
      exact ⟨p, vs, List.getElem?_set_self hi', h1, rv, h2, h3⟩
    · rw [List.getElem?_set_ne (Ne.symm z)] at e ⊢
      exact a.env.at_ j sl e
  · by_cases z : j = i
    · subst z
      rw [List.getElem?_set_self hi'] at e2
      cases e2
      exact h4
    · rw [List.getElem?_set_ne (Ne.symm z)] at e1 e2
      exact a.own.new j es q e1 e2
  · by_cases z : j = i
    · by_cases y : k = i
      · rw [z, y]
      · subst z
        rw [List.getElem?_set_self hi'] at e3
        rw [List.getElem?_set_ne (Ne.symm y)] at e2 e4
        cases e3
        exact (h5 k fs e2 y e4).elim
    · by_cases y : k = i
      · subst y
        rw [List.getElem?_set_self hi'] at e4
        rw [List.getElem?_set_ne (Ne.symm z)] at e1 e3
        cases e4
        exact (h5 j es e1 z e3).elim
      · rw [List.getElem?_set_ne (Ne.symm z)] at e1 e3
        rw [List.getElem?_set_ne (Ne.symm y)] at e2 e4
        exact a.own.inj j k es fs q e1 e2 e3 e4
/-! ### name = value -/
def swL (sc : Scope) (bk : ScopeKind) (x : Str) (p : Pos) : Expr → Bool
  | .ListComp _ _ s q => bk == .function && sc.names.lookup x == some .local && p.line == q.line && !(s.names.any fun (n, k) => n == x && (k == .local || k == .cell))
  | _ => false
def noComp : Expr → Bool
  | .ListComp .. => false
  | .SetComp .. => false
  | .DictComp .. => false
  | _ => true
theorem sw_no {v : Expr} {o : Option Expr} {l : Nat} {env : Env} (h : noComp v = true) : swapsWith v o l env = pure false := by
  cases v <;> first | rfl | cases h
theorem sn_asg (xo : XB X c) {i : Nat} {x : Str} {p pos : Pos} {v : Expr} {te : TE} (h1 : c.N[i]? = some x) (h2 : locB c x = true) (hv : noComp v = true) (he : PE X v te) : PS X (.Assign [.Name x p] v pos) (tAsg te (gName i)) := by
  obtain ⟨hl, hf⟩ := locB_ok xo h2
  exact ps_set (by rw [xo.N]; exact xo.nd) (by rw [xo.N]; exact h1) hl he (sw_no hv) hf
/-- a comprehension stored: on one line in a local name, or else -/
theorem sn_asgL (xo : XOk g X c Wx lv) {i : Nat} {x : Str} {p pos2 : Pos} (h1 : c.N[i]? = some x) (h2 : locB c x = true) {own : List Nat} {tg : Tg} {it : It} {q : Eo} {e : E} {elt k iter : Expr} {ifs : List Expr} {sc : Scope} {pos : Pos}
    (hb : blkC c.N c.sc sc (own.filterMap fun i => c.N[i]?.map fun x => (x, i)) = true) (ho : ∀ i ∈ own, i < c.N.length) (hsl : ∀ j ∈ tg.slots, j ∈ own)
    (hs : noSet iter = true) (hi : PI X k iter (rdI X.K g cs lv Wx it)) (hg : tgB ⟨c.N, relS sc c.sc, some sc, false⟩ tg k = true) (ht : ∀ (s : Shared) (H : Hp) (C : Addr) (cls : List (Str × Addr)) (fp : List Addr), PTs (X.blk s H sc (compEnvC sc cls C X.env) fp) ifs (rdC X.K g cs lv q))
    (he : ∀ (s : Shared) (H : Hp) (C : Addr) (cls : List (Str × Addr)) (fp : List Addr), PE (X.blk s H sc (compEnvC sc cls C X.env) fp) elt (rdE X.K g cs lv WF e)) :
    PS X (.Assign [.Name x p] (.ListComp elt [⟨k, iter, ifs, 0⟩] sc pos) pos2) (tAsg (rdF X.K g cs lv Wx (.lc own tg it q e)) (gName i)) := by
  have nd : X.N.Nodup := by rw [xo.N]; exact xo.nd
  have ok : BlkOk X.N X.env.scope sc (own.filterMap fun i => c.N[i]?.map fun x => (x, i)) := by rw [xo.N, xo.sc]; exact blkOk_by hb
  obtain ⟨hl, hf⟩ := locB_ok xo.toXB h2
  have hsw : swapsWith (.ListComp elt [⟨k, iter, ifs, 0⟩] sc pos) (some (.Name x p)) pos2.line X.env = pure (swL X.env.scope X.env.blockKind x p (.ListComp elt [⟨k, iter, ifs, 0⟩] sc pos)) := rfl
  cases hB : swL X.env.scope X.env.blockKind x p (.ListComp elt [⟨k, iter, ifs, 0⟩] sc pos) with
  | false =>
    rw [hB] at hsw
    exact ps_set nd (by rw [xo.N]; exact h1) hl (sn_lcF xo hb ho hsl hs hi hg ht he) hsw hf
  | true =>
    rw [hB] at hsw
    have hloc : X.env.scope.names.lookup x = some .local := by
      unfold swL at hB
      simp only [Bool.and_eq_true] at hB
      exact beq_iff_eq.mp hB.1.1.2
    refine PS.of (ps_setLc xo.calm nd (by rw [xo.N]; exact h1) hloc hsw hi ok (g := rdG X.K g tg) (fun s H C cls fp => (show PG (X.blk s H sc (compEnvC sc cls C X.env) fp) k (rdG X.K g tg) from sn_tg (g := g) (xo.blk sc s H C cls fp) hg)) ht he (noSet_ok hs)) fun D σ H h => ?_
    have h : rdF X.K g cs lv Wx (.lc own tg it q e) σ H fun x H1 => gName i x σ H1 D.nx := h
    have z := lc_read hsl h
    show tLc _ _ _ _ _ _ _ _
    rw [own_map ho]
    exact z
theorem rd_set {i : Nat} {e : E} {D : Ends} {σ : L2.St} {H : Hp} (h : rdS X.K g cs lv Wx W0 H0 (.set i e) D σ H) : tAsg (rdE X.K g cs lv Wx e) (gName i) D σ H := by
  obtain ⟨W, s, r, a, h⟩ := h
  refine ⟨W, s, r, a.ok, a.env, (PostS.bnd a.ext h).mono fun d s1 W1 H1 x1 ok1 h1 v rv => ?_⟩
  obtain ⟨r', e1, h2⟩ := PostS.opt h1
  obtain ⟨hi, e2⟩ := setR_some e1
  subst e2
  exact ((a.ext' x1 ok1).set rv hi).nx h2
theorem rd_setO {i : Nat} {e : E} {D : Ends} {σ : L2.St} {H : Hp} (h : rdS X.K g cs lv Wx W0 H0 (.setO i e) D σ H) : tAsg (rdF X.K g cs lv Wx e) (gName i) D σ H := by
  obtain ⟨W, s, r, a, h⟩ := h
  refine ⟨W, s, r, a.ok, a.env, (PostS.bnd a.ext h).mono fun d s1 W1 H1 x1 ok1 h1 ds p vs ed hp rp hF hB h0 => ?_⟩
  subst ed
  obtain ⟨r', e1, h2⟩ := PostS.opt h1
  have e1 : (if i < r.length then some (r.set i (.own ds)) else none) = some r' := e1
  split at e1
  · rename_i hi
    cases e1
    refine ((a.ext' x1 ok1).setO hi hp rp hF hB (a.ext.there p h0) fun j es he hj hs => ?_).nx h2
    obtain ⟨p', us, q1, q2, _⟩ := a.env.at_ j _ he
    rw [q1] at hs
    cases hs
    exact h0.no q2 (fun ps z => nomatch z)
  · cases e1
/-- forms that make a new list -/
theorem snF_lst {es : Es} {xs : List Expr} {pos : Pos} (h : PA X xs (rdEs X.K g cs lv Wx es)) : PE X (.List xs pos) (rdF X.K g cs lv Wx (.lst es)) :=
  PE.of (pe_lst h) fun σ H Q ⟨W, s, r, ok, en, h⟩ => ⟨W, s, r, ok, en, (Post.bnd h).mono fun ds s1 W1 H1 x1 ok1 h1 vs rv => by
    split at h1
    · rename_i hb
      refine ⟨by rw [rv.length]; exact small hb, fun p hp => ?_⟩
      have nB : p ∉ W1.B := fun z => by
        obtain ⟨o, e⟩ := ok1.boxAt z
        rw [hp] at e; cases e
      exact h1 W1 _ (.alloc0 W1 hp) (ok1.alloc0 hp) ds p vs rfl upd_same rv (ok1.unF hp) nB (x1.there p (.of hp))
    · exact h1.elim⟩
theorem snF_list (go : GOk X.prog X.w X.K X.mg X.base g t cs lv) (xo : XOk g X c Wx lv) {es : Es} {xs : List Expr} {x : Str} {p pos : Pos} (hx : bltB t c.sc x "list" = true) (hst : xs.all noStar = true) (ha : PA X xs (rdEs X.K g cs lv Wx es)) (hne : xs ≠ []) :
    PE X (.Call (.Name x p) xs [] pos) (rdF X.K g cs lv Wx (.bi .list es)) := by
  obtain ⟨rfl, hg, hm⟩ := bltB_ok go xo.toXB hx
  cases xs with
  | nil => exact (hne rfl).elim
  | cons e es' =>
    obtain ⟨h1, h2⟩ := ba (show (noStar e && es'.all noStar) = true by simpa using hst)
    refine PE.of (pe_callTy call_list_of hg hm (by decide +kernel) ha (by decide +kernel) (by decide +kernel) (star_no h1) (star_all h2)) fun σ H Q ⟨W, s, r, ok, en, h⟩ => ⟨W, s, r, ok, en, (Post.bnd h).mono fun ds s1 W1 H1 x1 ok1 h1 vs rv => ?_⟩
    obtain ⟨dd, e, _⟩ := Post.opt h1 ok1
    rw [e] at h1
    have fin : ∀ (ys : List D) (us : List V) (l : Addr), dd = .lst ys → RepL X.K g W1 ys us → H1 l = none → Q (.ref l) (upd H1 l (.lst us)) := fun ys us l ed ru hl => by
      have nB : l ∉ W1.B := fun z => by
        obtain ⟨o, e⟩ := ok1.boxAt z
        rw [hl] at e; cases e
      exact h1 W1 _ (.alloc0 W1 hl) (ok1.alloc0 hl) ys l us ed upd_same ru (ok1.unF hl) nB (x1.there l (.of hl))
    unfold biD at e
    split at e <;> first | contradiction | skip
    · obtain ⟨v, rfl, p, us, rfl, hp, r1⟩ := rv.inv1
      cases e
      exact ⟨p, us, rfl, .inl (sqL_H ok1 hp), fun l hl => fin _ us l rfl r1 hl⟩
    · obtain ⟨v, rfl, p, us, rfl, hp, r1⟩ := rv.inv1
      cases e
      exact ⟨p, us, rfl, .inr (sqT_H ok1 hp), fun l hl => fin _ us l rfl r1 hl⟩
end
end Tw
end
section
/-! Part L: the other statements. -/
namespace Tw
open PySem PySem.Spec PyProof.Rows L2
section
variable {X : Cx} {c : Cc} {t : Tn} {g : Ga} {cs : Cs} {Wx : WX} {lv : Nat} {W0 : Wd} {H0 : Hp}
/-! ### appending, storing -/
theorem EnvR.own_set {W : Wd} {H : Hp} {r : Rho} {σ : L2.St} {i : Nat} {ds es : List D} {a : Addr} {us : List V} (en : EnvR X.K g W H r σ) (ow : OwnS H0 r σ) (hr : r[i]? = some (.own ds)) (hs : σ[i]? = some (some (.ref a))) (h2 : W.F a = none) (h3 : a ∉ W.B) (rp : RepL X.K g W es us) :
    EnvR X.K g W (upd H a (.lst us)) (r.set i (.own es)) σ where
  len := by simp [en.len]
  at_ := fun j sl e => by
    have hi : i < r.length := (List.getElem?_eq_some_iff.mp hr).1
    by_cases z : j = i
    · subst z
      rw [List.getElem?_set_self hi] at e
      cases e
      exact ⟨a, us, hs, upd_same, rp, h2, h3⟩
    · rw [List.getElem?_set_ne (Ne.symm z)] at e
      have q := en.at_ j sl e
      cases sl with
      | no => trivial
      | v d => exact q
      | own fs =>
        obtain ⟨b, ws, q1, q2, q3, q4, q5⟩ := q
        exact ⟨b, ws, q1, by rw [upd_ne (fun y => z (ow.inj j i fs ds a e hr (by rw [← y]; exact q1) hs))]; exact q2, q3, q4, q5⟩
theorem OwnS.re {r : Rho} {σ : L2.St} {i : Nat} {ds es : List D} (ow : OwnS H0 r σ) (hr : r[i]? = some (.own ds)) : OwnS H0 (r.set i (.own es)) σ := by
  have hi : i < r.length := (List.getElem?_eq_some_iff.mp hr).1
  have old : ∀ (j : Nat) fs, (r.set i (.own es))[j]? = some (.own fs) → ∃ gs, r[j]? = some (.own gs) := fun j fs e => by
    by_cases z : j = i
    · subst z; exact ⟨ds, hr⟩
    · rw [List.getElem?_set_ne (Ne.symm z)] at e; exact ⟨fs, e⟩
  refine ⟨fun j fs a e1 e2 => ?_, fun j k fs gs a e1 e2 e3 e4 => ?_⟩
  · obtain ⟨fs', e⟩ := old j fs e1
    exact ow.new j fs' a e e2
  · obtain ⟨fs', f1⟩ := old j fs e1
    obtain ⟨gs', f2⟩ := old k gs e2
    exact ow.inj j k fs' gs' a f1 f2 e3 e4
theorem Ext.own {W W' : Wd} {H H' : Hp} {a : Addr} {o : HO} (x : Ext W H W' H') (h : Fr H a) : Ext W H W' (L2.upd H' a o) := x.upd h
/-- the list in a slot of its own is rewritten -/
theorem At.own_set {W : Wd} {s : S} {r : Rho} {σ : L2.St} {H : Hp} {i : Nat} {ds es : List D} {a : Addr} {vs us : List V} (A : At X.K g W0 H0 W s r σ H) (hr : r[i]? = some (.own ds)) (hs : σ[i]? = some (some (.ref a))) (h1 : H a = some (.lst vs)) (h2 : W.F a = none) (h3 : a ∉ W.B) (rp : RepL X.K g W es us) :
    At X.K g W0 H0 W s (r.set i (.own es)) σ (upd H a (.lst us)) :=
  ⟨A.ext.upd (A.own.new i ds a hr hs), A.ok.upd h1 h2 h3, A.env.own_set A.own hr hs h2 h3 rp, A.own.re hr⟩
theorem rd_own {W : Wd} {H : Hp} {r : Rho} {σ : L2.St} {i : Nat} {ds : List D} (en : EnvR X.K g W H r σ) (hr : r[i]? = some (.own ds)) : ∃ a vs, σ[i]? = some (some (.ref a)) ∧ H a = some (.lst vs) ∧ RepL X.K g W ds vs ∧ W.F a = none ∧ a ∉ W.B := en.at_ i _ hr
theorem few_one {ex : Expr} {env : Env} {cpos : Pos} (h : noStar ex = true) : ((backTo cpos (starEach [ex] env)).all (fun x => !x.1) && (backToKw cpos (keywordEach [] env)).all (fun x => x.1.isSome)
      && decide (([ex] : List Expr).length + ([] : List Keyword).length + (if ([] : List Keyword).isEmpty then 0 else 1) < 30)) = true := by
  rw [star_no h]; rfl
theorem bigline : big < sizeLine := by rw [sizeLine_eq]; decide
theorem sn_app (xo : XOk g X c Wx lv) {i : Nat} {e : E} {x : Str} {ex : Expr} {p apos pos pos2 : Pos} (hx : slotB c i x = true) (hst : noStar ex = true) (hli : (apos.endLine == pos.line) = true) (he : PE X ex (rdE X.K g cs lv Wx e)) :
    PS X (.Expr (.Call (.Attribute (.Name x p) "append" apos) [ex] [] pos) pos2) (rdS X.K g cs lv Wx W0 H0 (.app i e)) := by
  obtain ⟨h1, h2, h3, h4⟩ := slotB_ok hx
  have hv : PE X (.Name x p) (tVar i) := pe_var (i := i) (by rw [xo.N]; exact h1) (by rw [xo.sc]; exact h2) h3 h4
  refine PS.of (ps_expr (pe_bm PySem.F.plainAttrs_list PySem.F.slot_list_append PySem.F.type_list_append mt_append hv (pa_cons he pa_nil (star_no hst)) rfl (few_one hst) hli (star_no hst) rfl) rfl) fun D σ H ⟨W, s, r, A, h⟩ => ?_
  unfold exS at h
  split at h
  · rename_i xs hr
    obtain ⟨a, vs, e1, e2, rp, e3, e4⟩ := rd_own A.env hr
    refine ⟨.ref a, e1, .inl ⟨rfl, _, SqL.of e2⟩, W, s, r, A.ok, A.env, (PostS.bnd A.ext h).mono fun d s1 W1 H1 x1 ok1 h1 v rv => ?_⟩
    obtain ⟨f1, f2, f3⟩ := own_ext x1 e2 e3 e4
    have A1 := A.ext' x1 ok1
    split at h1
    · rename_i hb
      refine ⟨a, vs, v, rfl, rfl, f1, by rw [rp.length]; exact Nat.lt_trans hb bigline, ?_⟩
      exact (A1.own_set hr e1 f1 f2 f3 ((rp.mono x1.le).app (.one rv))).nx h1
    · exact h1.elim
  · exact h.elim
theorem sw_sole {v t : Expr} {l : Nat} {env : Env} (h : noComp v = true) : swapsWithSole [t] v l env = pure false := sw_no h
def noTup : Expr → Bool
  | .Tuple .. => false
  | .List .. => false
  | _ => true
theorem ss_none {v t : Expr} {env : Env} (h : noTup t = true) : swappedStores [t] v env = pure none := by
  cases t <;> first | rfl | cases h
theorem sub_assign {o i : Expr} {pos : Pos} {env : Env} (h : noSlice i = true) (v : Value) : assign (.Subscript o i pos) env v = (do
    let ov ← holding [v] (eval o env)
    let iv ← holding [v, ov] (eval i env)
    standAt pos
    holding [v, ov, iv] (setItem ov iv v)
    release [v, ov, iv] []) := by
  cases i <;> first | rfl | cases h
theorem ixN_lt {n : Nat} {k : Int} {j : Nat} (h : ixN n k = some j) : j < n := (ixN_seq h).2.1
theorem sn_sto (xo : XOk g X c Wx lv) {i : Nat} {e j : E} {x : Str} {ex jx : Expr} {p pos pos2 : Pos} (hx : slotB c i x = true) (hn : noComp ex = true) (hs : noSlice jx = true) (he : PE X ex (rdE X.K g cs lv Wx e)) (hj : PE X jx (rdE X.K g cs lv Wx j)) :
    PS X (.Assign [.Subscript (.Name x p) jx pos] ex pos2) (rdS X.K g cs lv Wx W0 H0 (.sto i j e)) := by
  obtain ⟨h1, h2, h3, h4⟩ := slotB_ok hx
  have hv : PE X (.Name x p) (tVar i) := pe_var (i := i) (by rw [xo.N]; exact h1) (by rw [xo.sc]; exact h2) h3 h4
  refine PS.of (ps_asg he (pg_sub hv hj set_list (sub_assign hs)) (sw_sole hn) (ss_none rfl) rfl) fun D σ H ⟨W, s, r, A, h⟩ => ?_
  refine ⟨W, s, r, A.ok, A.env, (PostS.bnd A.ext h).mono fun d s1 W1 H1 x1 ok1 h1 v rv => ?_⟩
  have A1 := A.ext' x1 ok1
  split at h1
  · rename_i xs hr
    obtain ⟨a, vs, e1, e2, rp, e3, e4⟩ := rd_own A1.env hr
    refine ⟨.ref a, e1, W1, s1, r, ok1, A1.env, (PostS.bnd A1.ext h1).mono fun y s2 W2 H2 x2 ok2 h2 u ru => ?_⟩
    obtain ⟨f1, f2, f3⟩ := own_ext x2 e2 e3 e4
    have A2 := A1.ext' x2 ok2
    split at h2
    · rename_i k
      split at h2
      · rename_i n hn'
        cases ru
        refine ⟨a, vs, k, n, rfl, rfl, f1, by rw [rp.length]; exact hn', ?_⟩
        exact (A2.own_set hr e1 f1 f2 f3 (RepL.set n (rv.mono x2.le) (rp.mono x2.le))).nx h2
      · exact h2.elim
    · exact h2.elim
  · exact h1.elim
/-- a thing that may change is rewritten -/
theorem Ok.box_set {W : Wd} {s : S} {H : Hp} {b : Nat} {a : Addr} {vs us : List V} {ds : List D} (ok : Ok X.K g W s H) (hb : W.B[b]? = some a) (h1 : H a = some (.lst vs)) (rp : RepL X.K g W ds us) : Ok X.K g W (s.set b (.lst ds)) (L2.upd H a (.lst us)) where
  sub := fun p o h => by rw [upd_ne (fun z => by rw [z, ok.nf a (List.mem_of_getElem? hb)] at h; cases h)]; exact ok.sub p o h
  len := by rw [List.length_set]; exact ok.len
  nd := ok.nd
  nf := ok.nf
  box := fun k p x e1 e2 => by
    by_cases z : k = b
    · subst z
      rw [hb] at e1; cases e1
      have hk : k < s.length := by rw [← ok.len]; exact (List.getElem?_eq_some_iff.mp hb).1
      rw [List.getElem?_set_self hk] at e2
      cases e2
      exact ⟨us, upd_same, rp⟩
    · rw [List.getElem?_set_ne (Ne.symm z)] at e2
      have hne : p ≠ a := fun y => by
        subst y
        obtain ⟨q1, e3⟩ := List.getElem?_eq_some_iff.mp e1
        obtain ⟨q2, e4⟩ := List.getElem?_eq_some_iff.mp hb
        exact z ((List.getElem_inj ok.nd).mp (e3.trans e4.symm))
      exact (ok.box k p x e1 e2).ext (.refl W) fun ws e => by rw [upd_ne hne]; exact e
  tab := tabs_upd ok.tab h1
  nt := ok.nt
theorem Ext.box {W W' : Wd} {H H' : Hp} {a : Addr} {o : HO} (x : Ext W H W' H') (h : a ∈ W'.B) (ho : ∀ ps, o ≠ .tbl ps := by intro ps z; cases z) : Ext W H W' (L2.upd H' a o) where
  le := x.le
  newF := x.newF
  newB := x.newB
  keep := fun b u hb n t => by rw [upd_ne (fun z => (x.newB a h).elim (fun y => n (by rw [z]; exact y)) fun y => y.no (by rw [← z]; exact hb) t)]; exact x.keep b u hb n t
  there := fun b hb => x.there b (by
    by_cases e : b = a
    · rw [e] at hb; exact (hb.no upd_same ho).elim
    · exact fun u hu => hb u (by rw [upd_ne e]; exact hu))
theorem EnvR.box {W : Wd} {H : Hp} {r : Rho} {σ : L2.St} {a : Addr} {o : HO} (en : EnvR X.K g W H r σ) (ha : a ∈ W.B) : EnvR X.K g W (upd H a o) r σ where
  len := en.len
  at_ := fun j sl e => by
    have q := en.at_ j sl e
    cases sl with
    | no => trivial
    | v d => exact q
    | own fs =>
      obtain ⟨b, ws, q1, q2, q3, q4, q5⟩ := q
      exact ⟨b, ws, q1, by rw [upd_ne (fun y => q5 (by rw [y]; exact ha))]; exact q2, q3, q4, q5⟩
theorem sn_stb (xo : XOk g X c Wx lv) {i : Nat} {e j : E} {x : Str} {ex jx : Expr} {p pos pos2 : Pos} (hx : slotB c i x = true) (hn : noComp ex = true) (hs : noSlice jx = true) (he : PE X ex (rdE X.K g cs lv Wx e)) (hj : PE X jx (rdE X.K g cs lv Wx j)) :
    PS X (.Assign [.Subscript (.Name x p) jx pos] ex pos2) (rdS X.K g cs lv Wx W0 H0 (.stb i j e)) := by
  obtain ⟨h1, h2, h3, h4⟩ := slotB_ok hx
  have hv : PE X (.Name x p) (tVar i) := pe_var (i := i) (by rw [xo.N]; exact h1) (by rw [xo.sc]; exact h2) h3 h4
  refine PS.of (ps_asg he (pg_sub hv hj set_list (sub_assign hs)) (sw_sole hn) (ss_none rfl) rfl) fun D σ H ⟨W, s, r, A, h⟩ => ?_
  refine ⟨W, s, r, A.ok, A.env, (PostS.bnd A.ext h).mono fun d s1 W1 H1 x1 ok1 h1 v rv => ?_⟩
  have A1 := A.ext' x1 ok1
  split at h1
  · rename_i b hr
    obtain ⟨v', e1, a, rfl, hb⟩ := A1.env.at_ i _ hr
    refine ⟨.ref a, e1, W1, s1, r, ok1, A1.env, (PostS.bnd A1.ext h1).mono fun y s2 W2 H2 x2 ok2 h2 u ru => ?_⟩
    have A2 := A1.ext' x2 ok2
    have hb2 := x2.le.getB hb
    split at h2
    · rename_i k xs hk
      split at h2
      · rename_i n hn'
        cases ru
        obtain ⟨vs, f1, rp⟩ := ok2.box b a _ hb2 hk
        refine ⟨a, vs, k, n, rfl, rfl, f1, by rw [rp.length]; exact hn', ?_⟩
        have A3 : At X.K g W0 H0 W2 (s2.set b (.lst (xs.set n d))) r σ (upd H2 a (.lst (vs.set n v))) :=
          ⟨A2.ext.box (List.mem_of_getElem? hb2), ok2.box_set hb2 f1 (RepL.set n (rv.mono x2.le) rp), A2.env.box (List.mem_of_getElem? hb2), A2.own⟩
        exact A3.nx h2
      · exact h2.elim
    · exact h2.elim
  · exact h1.elim
/-! ### if, return, drop -/
theorem sn_if {q : E} {a b : Ss} {x : Expr} {xs ys : List Stmt} {pos : Pos} (hq : PT X x (rdT X.K g cs lv Wx q)) (ha : PSs X xs (rdSs X.K g cs lv Wx W0 H0 a)) (hb : PSs X ys (rdSs X.K g cs lv Wx W0 H0 b)) : PS X (.If x xs ys pos) (rdS X.K g cs lv Wx W0 H0 (.ifs q a b)) :=
  PS.of (ps_if hq ha hb) fun D σ H ⟨W, s, r, A, h⟩ => ⟨W, s, r, A.ok, A.env, (PostS.bnd A.ext h).mono fun d s1 W1 H1 x1 ok1 h1 => by
    have A1 := A.ext' x1 ok1
    cases d with
    | bl k =>
      refine ⟨k, rfl, ?_⟩
      cases k with
      | true => exact iteT ⟨W1, s1, r, A1, h1⟩
      | false => exact iteF ⟨W1, s1, r, A1, h1⟩
    | _ => exact h1.elim⟩
theorem sn_ret {e : E} {x : Expr} {pos : Pos} (he : PE X x (rdE X.K g cs lv Wx e)) : PS X (.Return (some x) pos) (rdS X.K g cs lv Wx W0 H0 (.ret e)) :=
  PS.of (ps_ret he) fun D σ H ⟨W, s, r, A, h⟩ => ⟨W, s, r, A.ok, A.env, (PostS.bnd A.ext h).mono fun d s1 W1 H1 x1 ok1 h1 v rv => h1 W1 H1 v (.refl W1) (A.ext.trans x1) ok1 rv⟩
theorem Ok.box_new {W : Wd} {s : S} {H : Hp} {a : Addr} {vs : List V} {ds : List D} (ok : Ok X.K g W s H) (h1 : H a = some (.lst vs)) (h2 : W.F a = none) (h3 : a ∉ W.B) (rp : RepL X.K g W ds vs) : Ok X.K g ⟨W.F, W.B ++ [a]⟩ (s ++ [.lst ds]) H := by
  have le : Le W ⟨W.F, W.B ++ [a]⟩ := ⟨fun _ _ h => h, [a], rfl⟩
  refine ⟨ok.sub, by simp [ok.len], ?_, fun b hb => ?_, fun k b x e1 e2 => ?_, ok.tab, ok.nt⟩
  · show (W.B ++ [a]).Nodup
    refine List.nodup_append.mpr ⟨ok.nd, by simp, fun x hx y hy => ?_⟩
    have e : y = a := by simpa using hy
    rw [e]
    exact fun z => h3 (by rw [← z]; exact hx)
  · rcases List.mem_append.mp (show b ∈ W.B ++ [a] from hb) with z | z
    · exact ok.nf b z
    · have e : b = a := by simpa using z
      rw [e]; exact h2
  · have e1 : (W.B ++ [a])[k]? = some b := e1
    by_cases hk : k < W.B.length
    · rw [List.getElem?_append_left hk] at e1
      rw [List.getElem?_append_left (by rw [← ok.len]; exact hk)] at e2
      exact (ok.box k b x e1 e2).ext le fun _ e => e
    · have hl : k < (W.B ++ [a]).length := (List.getElem?_eq_some_iff.mp e1).1
      have e : k = W.B.length := by simp at hl; omega
      subst e
      rw [List.getElem?_append_right (Nat.le_refl _)] at e1
      rw [ok.len, List.getElem?_append_right (Nat.le_refl _)] at e2
      simp at e1 e2
      subst e1; subst e2
      exact ⟨vs, h1, RepL.mono le rp⟩
theorem sn_retB {e : E} {x : Expr} {pos : Pos} (he : PE X x (rdF X.K g cs lv Wx e)) : PS X (.Return (some x) pos) (rdS X.K g cs lv Wx W0 H0 (.retB e)) :=
  PS.of (ps_ret he) fun D σ H ⟨W, s, r, A, h⟩ => ⟨W, s, r, A.ok, A.env, (PostS.bnd A.ext h).mono fun d s1 W1 H1 x1 ok1 h1 ds p vs ed hp rp hF hB h0 => by
    subst ed
    have hp0 : Fr H0 p := A.ext.there p h0
    have x01 := A.ext.trans x1
    have h1 : PostS X.K g Wx W0 H0 W1 (.ok (.rt (.box s1.length)) (s1 ++ [.lst ds])) D := h1
    refine h1 ⟨W1.F, W1.B ++ [p]⟩ H1 (.ref p) ⟨fun _ _ h => h, [p], rfl⟩ ⟨x01.le.trans ⟨fun _ _ h => h, [p], rfl⟩, x01.newF, fun b hb => ?_, x01.keep, x01.there⟩ (ok1.box_new hp hF hB rp) ⟨p, rfl, ?_⟩
    · rcases List.mem_append.mp (show b ∈ W1.B ++ [p] from hb) with z | z
      · exact x01.newB b z
      · have e : b = p := by simpa using z
        rw [e]; exact .inr hp0
    · show (W1.B ++ [p])[s1.length]? = some p
      rw [← ok1.len, List.getElem?_append_right (Nat.le_refl _)]; simp⟩
theorem sn_exp {e : E} {x : Expr} {pos : Pos} (hn : noComp x = true) (he : PE X x (rdE X.K g cs lv Wx e)) : PS X (.Expr x pos) (rdS X.K g cs lv Wx W0 H0 (.exp e)) :=
  PS.of (ps_expr he (sw_no hn)) fun D σ H ⟨W, s, r, A, h⟩ => ⟨W, s, r, A.ok, A.env, (PostS.bnd A.ext h).mono fun d s1 W1 H1 x1 ok1 h1 v rv => (A.ext' x1 ok1).nx h1⟩
theorem sn_nev {st : Stmt} : PS X st (rdS X.K g cs lv Wx W0 H0 .nev) := PS.of ps_never fun D σ H ⟨W, s, r, A, h⟩ => h
/-! ### loops -/
theorem setR_own {r r' : Rho} {i : Nat} {d : Tw.D} (e : setR r i d = some r') : ∀ (j : Nat) ds, r'[j]? = some (.own ds) → r[j]? = some (.own ds) ∧ j ≠ i := fun j ds h => by
  obtain ⟨hi, e⟩ := setR_some e
  subst e
  by_cases z : j = i
  · subst z
    rw [List.getElem?_set_self hi] at h; cases h
  · rw [List.getElem?_set_ne (Ne.symm z)] at h; exact ⟨h, z⟩
theorem setRs_own : ∀ {is : List Nat} {xs : List Tw.D} {r r' : Rho}, setRs r is xs = some r' → ∀ (j : Nat) ds, r'[j]? = some (.own ds) → r[j]? = some (.own ds) ∧ j ∉ is
  | [], [], r, r', e, j, ds, h => by cases e; exact ⟨h, fun z => nomatch z⟩
  | [], _ :: _, _, _, e, _, _, _ => by cases e
  | _ :: _, [], _, _, e, _, _, _ => by cases e
  | i :: is, d :: xs, r, r', e, j, ds, h => by
    obtain ⟨r1, e1, e2⟩ := Option.bind_eq_some_iff.mp (show ((setR r i d).bind fun r => setRs r is xs) = some r' from e)
    obtain ⟨h1, h2⟩ := setRs_own e2 j ds h
    obtain ⟨h3, h4⟩ := setR_own e1 j ds h1
    exact ⟨h3, fun z => by
      rcases List.mem_cons.mp z with z | z
      · exact h4 z
      · exact h2 z⟩
theorem tgR_own {tg : Tg} {d : Tw.D} {r r' : Rho} (e : tgR r tg d = some r') (j : Nat) (ds : List Tw.D) (h : r'[j]? = some (.own ds)) : r[j]? = some (.own ds) ∧ j ∉ tg.slots := by
  unfold tgR at e
  split at e
  · rename_i i
    obtain ⟨h1, h2⟩ := setR_own e j ds h
    exact ⟨h1, fun z => h2 (by simpa [Tg.slots] using z)⟩
  · split at e
    · exact setRs_own e j ds h
    · cases e
theorem ownS_only {tg : Tg} {d : Tw.D} {r r' : Rho} {σ σ' : L2.St} (o : OwnS H0 r σ) (e : tgR r tg d = some r') (n : Only tg.slots σ σ') : OwnS H0 r' σ' := by
  refine ⟨fun i ds a e1 e2 => ?_, fun i j ds es a e1 e2 e3 e4 => ?_⟩
  · obtain ⟨f1, f2⟩ := tgR_own e i ds e1
    rw [n.2 i f2] at e2
    exact o.new i ds a f1 e2
  · obtain ⟨f1, f2⟩ := tgR_own e i ds e1
    obtain ⟨g1, g2⟩ := tgR_own e j es e2
    rw [n.2 i f2] at e3
    rw [n.2 j g2] at e4
    exact o.inj i j ds es a f1 g1 e3 e4
theorem sn_for (xo : XOk g X c Wx lv) {tg : Tg} {it : It} {body : Ss} {k x : Expr} {xs : List Stmt} {pos : Pos} (hp : PassesOwn (model X.prog X.w) X.A X.env X.xe) (hs : noSet x = true) (hi : PI X k x (rdI X.K g cs lv Wx it)) (hg : PG X k (rdG X.K g tg)) (hb : PSs X xs (rdSs X.K g cs lv Wx W0 H0 body)) :
    PS X (.For k x xs [] pos) (rdS X.K g cs lv Wx W0 H0 (.for tg it body)) := by
  refine PS.of (ps_for hp xo.calm hi hg hb (noSet_ok hs)) fun D σ H ⟨W, s, r, A, h⟩ => ?_
  refine ⟨W, s, r, A.ok, A.env, (PostS.bnd A.ext h).mono fun ds s1 W1 H1 x1 ok1 h1 J hJ => ?_⟩
  obtain ⟨G, Y, w, hG, hY⟩ := hJ
  let F : Tw.D → Rho → S → Out Fl := fun d r s => match tgR r tg d with
    | some r1 => exSs cs body lv r1 s
    | none => .bad
  have h1 : PostS X.K g Wx W0 H0 W1 (forLoop F ds r s1) D := h1
  refine for_it w (fun i σ2 H2 => ∃ W2 s2 r2, Le W1 W2 ∧ At X.K g W0 H0 W2 s2 r2 σ2 H2 ∧ PostS X.K g Wx W0 H0 W2 (forLoop F (ds.drop i) r2 s2) D) ⟨W1, s1, r, .refl W1, A.ext' x1 ok1, h1⟩
    (fun i σ2 H2 _ ⟨W2, s2, r2, l, A2, _⟩ => hG W2 s2 H2 l A2.ok) ?_ ?_
  · rintro i v σ2 H2 H3 hi ⟨W2, s2, r2, l, A2, hP⟩ hy
    obtain ⟨W3, x3, ok3, rd⟩ := hY i ds[i] W2 s2 H2 v H3 (List.getElem?_eq_getElem hi) l A2.ok hy
    have A3 := A2.ext' x3 ok3
    rw [List.drop_eq_getElem_cons hi] at hP
    have hP : PostS X.K g Wx W0 H0 W2 (bnd (F ds[i] r2 s2) fun fl s4 => match fl with
      | .nx r1 => forLoop F (ds.drop (i + 1)) r1 s4
      | .rt x => .ok (.rt x) s4) D := hP
    cases hr : tgR r2 tg ds[i] with
    | none =>
      have e : F ds[i] r2 s2 = .bad := by show (match tgR r2 tg ds[i] with | some r1 => exSs cs body lv r1 s2 | none => .bad) = _; rw [hr]
      rw [e] at hP; exact hP.elim
    | some r3 =>
      have e : F ds[i] r2 s2 = exSs cs body lv r3 s2 := by show (match tgR r2 tg ds[i] with | some r1 => exSs cs body lv r1 s2 | none => .bad) = _; rw [hr]
      rw [e] at hP
      refine ⟨W3, s2, r2, ds[i], r3, ok3, A3.env, rd, hr, fun σ' en' o => ⟨W3, s2, r3, ⟨A3.ext, ok3, en', ?_⟩, ?_⟩⟩
      · exact ownS_only A3.own hr o
      · have hP := PostS.from hP x3.le
        have l3 := l.trans x3.le
        cases hB : exSs cs body lv r3 s2 with
        | bad => rw [hB] at hP; exact hP
        | ex z s4 => rw [hB] at hP; exact hP
        | ok fl s4 =>
          rw [hB, bnd_ok] at hP
          cases fl with
          | rt d => exact hP
          | nx r4 => exact fun W4 H4 σ4 l4 x4 ok4 en4 ow4 => ⟨W4, s4, r4, l3.trans l4, ⟨x4, ok4, en4, ow4⟩, PostS.from hP l4⟩
  · rintro σ2 H2 ⟨W2, s2, r2, l, A2, hP⟩
    rw [List.drop_length] at hP
    exact A2.nx hP
end
end Tw
end
section
/-! Part M: several names at once, while, raise, the ghost. -/
namespace Tw
open PySem PySem.Spec PyProof.Rows L2
section
variable {X : Cx} {c : Cc} {t : Tn} {g : Ga} {cs : Cs} {Wx : WX} {lv : Nat} {W0 : Wd} {H0 : Hp}
theorem ss_none2 {v : Expr} {es : List Expr} {k : Nat} {p : Pos} {env : Env} (h : noTup v = true) : swappedStores [.Tuple es k p] v env = pure none := by
  cases v <;> first | rfl | cases h
theorem tgR_At {W : Wd} {s : S} {r r' : Rho} {σ σ' : L2.St} {H : Hp} {tg : Tg} {d : Tw.D} (A : At X.K g W0 H0 W s r σ H) (e : tgR r tg d = some r') (en : EnvR X.K g W H r' σ') (o : Only tg.slots σ σ') : At X.K g W0 H0 W s r' σ' H := ⟨A.ext, A.ok, en, ownS_only A.own e o⟩
theorem sn_unp (xo : XOk g X c Wx lv) {is : List Nat} {e : E} {es : List Expr} {v : Expr} {k : Nat} {p pos : Pos} (hl : locsB c is es = true) (hn : noComp v = true) (ht : noTup v = true) (he : PE X v (rdE X.K g cs lv Wx e)) :
    PS X (.Assign [.Tuple es k p] v pos) (rdS X.K g cs lv Wx W0 H0 (.unp is e)) := by
  refine PS.of (ps_asg he (sn_gt (g := g) xo hl) (sw_sole hn) (ss_none2 ht) rfl) fun D σ H ⟨W, s, r, A, h⟩ => ?_
  refine ⟨W, s, r, A.ok, A.env, (PostS.bnd A.ext h).mono fun d s1 W1 H1 x1 ok1 h1 v rv => ?_⟩
  obtain ⟨r', e1, h2⟩ := PostS.opt h1
  have A1 := A.ext' x1 ok1
  exact ⟨W1, s1, r, d, r', ok1, A1.env, rv, e1, fun σ' en o => (tgR_At A1 e1 en o).nx h2⟩
/-! ### several at once -/
def bkS (sc : Scope) : ScopeKind := if sc.kind.isAnnotationScope then .function else sc.kind
def strB : Expr → Bool
  | .Starred .. => true
  | _ => false
def swN (sc : Scope) (ts : List Expr) : List Str := ts.filterMap fun
  | .Name id pos => if sc.names.lookup id == some .local && pos.line == (ts.head?.map (·.pos.line)).getD 0 then some id else none
  | _ => none
def swO (sc : Scope) (ts vs : List Expr) : Option (Option (List Str)) :=
  if !(ts.length == 2 || ts.length == 3) || vs.length != ts.length || bkS sc != .function then some none
  else if vs.any strB then some none
  else if (swN sc ts).length != ts.length || (swN sc ts).eraseDups.length != (swN sc ts).length then some none
  else if vs.all (foldedForSure 8) then some none
  else if vs.all (constantsAlone 8) then none
  else some (some (swN sc ts))
theorem swO_ok {env : Env} {ts vs : List Expr} {k k2 : Nat} {p p2 : Pos} {o : Option (List Str)} (h : swO env.scope ts vs = some o) : swappedStores [.Tuple ts k p] (.Tuple vs k2 p2) env = pure o := by
  unfold swO at h
  have hb : bkS env.scope = env.blockKind := rfl
  have hs : vs.any strB = vs.any fun | .Starred .. => true | _ => false := by
    congr 1
  rw [hb, hs] at h
  unfold swappedStores
  simp only []
  split at h
  · rename_i h1
    cases h
    rw [if_pos h1]
  rename_i h1
  rw [if_neg h1]
  split at h
  · rename_i h2
    cases h
    exact if_pos h2
  rename_i h2
  refine (if_neg h2).trans ?_
  split at h
  · rename_i h3
    cases h
    exact if_pos h3
  rename_i h3
  split at h
  · rename_i h4
    cases h
    exact (if_neg h3).trans (if_pos h4)
  rename_i h4
  split at h
  · cases h
  rename_i h5
  cases h
  refine (if_neg h3).trans ((if_neg h4).trans ?_)
  exact if_neg h5
/-- values to be stored together, some of them new lists of their own -/
def PsR (K : PySem.W.Frag) (g : Ga) (W : Wd) (H : Hp) : (Addr → Prop) → List (Nat × Bool) → List Tw.D → List V → Prop
  | _, [], ds, vs => ds = [] ∧ vs = []
  | N, (_, o) :: is, ds, vs => ∃ d ds' v vs', ds = d :: ds' ∧ vs = v :: vs' ∧
    (if o = true then ∀ xs, d = .lst xs → ∃ p us, v = .ref p ∧ H p = some (.lst us) ∧ RepL K g W xs us ∧ W.F p = none ∧ p ∉ W.B ∧ N p ∧ PsR K g W H (fun q => N q ∧ q ≠ p) is ds' vs' else Rep K g W d v ∧ PsR K g W H N is ds' vs')
theorem PsR.mono {K : PySem.W.Frag} {W : Wd} {H : Hp} : ∀ {is : List (Nat × Bool)} {ds : List Tw.D} {vs : List V} {N N' : Addr → Prop}, (∀ a, N a → N' a) → PsR K g W H N is ds vs → PsR K g W H N' is ds vs
  | [], _, _, _, _, _, h => h
  | (_, o) :: is, _, _, N, N', f, ⟨d, ds', v, vs', e1, e2, h⟩ => by
    refine ⟨d, ds', v, vs', e1, e2, ?_⟩
    split at h
    · rename_i ho
      rw [if_pos ho]
      intro xs ed
      obtain ⟨p, us, q1, q2, q3, q4, q5, q6, q7⟩ := h xs ed
      exact ⟨p, us, q1, q2, q3, q4, q5, f p q6, PsR.mono (fun a z => ⟨f a z.1, z.2⟩) q7⟩
    · rename_i ho
      rw [if_neg ho]
      exact ⟨h.1, PsR.mono f h.2⟩
def rdPs (K : PySem.W.Frag) (g : Ga) (cs : Cs) (lv : Nat) (Wx : WX) (is : List (Nat × Bool)) (es : Es) : TA := fun σ H Q => ∃ W s r, Ok K g W s H ∧ EnvR K g W H r σ ∧ Post K g W H (evEs cs r es lv s) (fun ds _ W' H' => ∀ vs, PsR K g W' H' (fun q => Fr H q) is ds vs → Q vs H') (fun c dd H' => Wx c dd σ H')
theorem sn_ps0 : PA X [] (rdPs X.K g cs lv Wx [] .nil) := PA.of pa_nil fun σ H Q ⟨W, s, r, ok, en, h⟩ => Post.now h ok [] ⟨rfl, rfl⟩
theorem sn_psF {i : Nat} {is : List (Nat × Bool)} {a : E} {es : Es} {x : Expr} {xs : List Expr} (hs : noStar x = true) (ha : PE X x (rdE X.K g cs lv Wx a)) (hes : PA X xs (rdPs X.K g cs lv Wx is es)) : PA X (x :: xs) (rdPs X.K g cs lv Wx ((i, false) :: is) (.cons a es)) :=
  PA.of (pa_cons ha hes (star_no hs)) fun σ H Q ⟨W, s, r, ok, en, h⟩ => ⟨W, s, r, ok, en, (Post.bnd h).mono fun d s1 W1 H1 x1 ok1 h1 v rv =>
    ⟨W1, s1, r, ok1, en.ext x1, (Post.bnd h1).mono fun ds s2 W2 H2 x2 ok2 h2 vs rs => Post.now h2 ok2 _ ⟨d, ds, v, vs, rfl, rfl, by
      rw [if_neg Bool.false_ne_true]
      exact ⟨rv.mono x2.le, rs.mono fun q hq => x1.there q hq⟩⟩⟩⟩
theorem sn_psT {i : Nat} {is : List (Nat × Bool)} {a : E} {es : Es} {x : Expr} {xs : List Expr} (hs : noStar x = true) (ha : PE X x (rdF X.K g cs lv Wx a)) (hes : PA X xs (rdPs X.K g cs lv Wx is es)) : PA X (x :: xs) (rdPs X.K g cs lv Wx ((i, true) :: is) (.cons a es)) :=
  PA.of (pa_cons ha hes (star_no hs)) fun σ H Q ⟨W, s, r, ok, en, h⟩ => ⟨W, s, r, ok, en, (Post.bnd h).mono fun d s1 W1 H1 x1 ok1 h1 ys p us ed hp rp hF hB h0 =>
    ⟨W1, s1, r, ok1, en.ext x1, (Post.bnd h1).mono fun ds s2 W2 H2 x2 ok2 h2 vs rs => Post.now h2 ok2 _ ⟨d, ds, .ref p, vs, rfl, rfl, by
      rw [if_pos rfl]
      intro zs ed'
      rw [ed] at ed'; cases ed'
      obtain ⟨f1, f2, f3⟩ := own_ext x2 hp hF hB
      exact ⟨p, us, rfl, f1, rp.mono x2.le, f2, f3, h0, rs.mono fun q hq => ⟨x1.there q hq, fun z => Fr.no (H := H1) (a := p) (o := .lst us) (by rw [← z]; exact hq) hp (fun ps z => nomatch z)⟩⟩⟩⟩⟩
def setVs : L2.St → List (Nat × Bool) → List V → L2.St
  | σ, (i, _) :: is, v :: vs => setVs (σ.set i (some v)) is vs
  | σ, _, _ => σ
theorem par_store {W : Wd} {s : S} {H : Hp} : ∀ {is : List (Nat × Bool)} {ds : List Tw.D} {vs : List V} {N : Addr → Prop} {r r' : Rho} {σ : L2.St}, At X.K g W0 H0 W s r σ H → PsR X.K g W H N is ds vs → parR r is ds = some r' → (∀ q, N q → Fr H0 q) →
    (∀ (j : Nat) es a, r[j]? = some (.own es) → σ[j]? = some (some (.ref a)) → ¬ N a) → vs.length = is.length ∧ At X.K g W0 H0 W s r' (setVs σ is vs) H
  | [], ds, vs, N, r, r', σ, A, h, e, hN, hn => by
    obtain ⟨e1, e2⟩ := h
    subst e1 e2
    cases e
    exact ⟨rfl, A⟩
  | (i, o) :: is, ds, vs, N, r, r', σ, A, h, e, hN, hn => by
    obtain ⟨d, ds', v, vs', e1, e2, h⟩ := h
    subst e1 e2
    have e : ((if o = true then setO r i d else setR r i d).bind fun r => parR r is ds') = some r' := by unfold parR at e; exact e
    obtain ⟨r1, e1, e2⟩ := Option.bind_eq_some_iff.mp e
    show (vs'.length + 1 = is.length + 1) ∧ At X.K g W0 H0 W s r' (setVs (σ.set i (some v)) is vs') H
    suffices z : vs'.length = is.length ∧ At X.K g W0 H0 W s r' (setVs (σ.set i (some v)) is vs') H from ⟨by rw [z.1], z.2⟩
    split at h
    · rename_i ho
      rw [if_pos ho] at e1
      unfold setO at e1
      obtain ⟨xs, e3, e4⟩ := Option.bind_eq_some_iff.mp e1
      have ed : d = .lst xs := by
        unfold lstOf at e3
        split at e3 <;> cases e3
        rfl
      split at e4
      · rename_i hi
        cases e4
        obtain ⟨p, us, rfl, q2, q3, q4, q5, q6, q7⟩ := h xs ed
        have A1 := A.setO hi q2 q3 q4 q5 (hN p q6) fun j es he hj hs => hn j es p he hs q6
        refine par_store A1 q7 e2 (fun q z => hN q z.1) fun j es a f1 f2 z => ?_
        by_cases y : j = i
        · subst y
          rw [List.getElem?_set_self (by rw [← A.env.len]; exact hi)] at f2
          cases f2
          exact z.2 rfl
        · rw [List.getElem?_set_ne (Ne.symm y)] at f1 f2
          exact hn j es a f1 f2 z.1
      · cases e4
    · rename_i ho
      rw [if_neg ho] at e1
      obtain ⟨hi, e3⟩ := setR_some e1
      subst e3
      refine par_store (A.set h.1 hi) h.2 e2 hN fun j es a f1 f2 z => ?_
      by_cases y : j = i
      · subst y
        rw [List.getElem?_set_self hi] at f1
        cases f1
      · rw [List.getElem?_set_ne (Ne.symm y)] at f1 f2
        exact hn j es a f1 f2 z
theorem rd_par {is : List (Nat × Bool)} {es : Es} {D : Ends} {σ : L2.St} {H : Hp} (h : rdS X.K g cs lv Wx W0 H0 (.par is es) D σ H) : rdPs X.K g cs lv Wx is es σ H fun vs H1 => vs.length = is.length ∧ D.nx (setVs σ is vs) H1 := by
  obtain ⟨W, s, r, A, h⟩ := h
  refine ⟨W, s, r, A.ok, A.env, (PostS.bnd A.ext h).mono fun ds s1 W1 H1 x1 ok1 h1 vs rs => ?_⟩
  obtain ⟨r', e1, h2⟩ := PostS.opt h1
  suffices z : vs.length = is.length ∧ At X.K g W0 H0 W1 s1 r' (setVs σ is vs) H1 from ⟨z.1, z.2.nx h2⟩
  refine par_store (A.ext' x1 ok1) rs e1 (fun q hq => A.ext.there q hq) fun j es a f1 f2 z => ?_
  obtain ⟨p', us, q1, q2, _⟩ := A.env.at_ j _ f1
  rw [q1] at f2
  cases f2
  exact Fr.no (H := H) (show Fr H a from z) q2 (fun ps z => nomatch z)
theorem psR_len {K : PySem.W.Frag} {W : Wd} {H : Hp} : ∀ {is : List (Nat × Bool)} {ds : List Tw.D} {vs : List V} {N : Addr → Prop}, PsR K g W H N is ds vs → ds.length = is.length ∧ (∀ o ∈ is, o.2 = false) → vs.length = is.length
  | [], _, _, _, h, _ => by rw [h.2]; rfl
  | (_, o) :: is, _, _, N, ⟨d, ds', v, vs', e1, e2, h⟩, hl => by
    subst e1 e2
    have ho : o = false := hl.2 _ (.head _)
    subst ho
    rw [if_neg Bool.false_ne_true] at h
    have := psR_len h.2 ⟨by have := hl.1; simpa using this, fun o z => hl.2 o (.tail _ z)⟩
    simp [this]
/-- none of them a list of its own: as a tuple taken apart -/
theorem parR_tg : ∀ {is : List (Nat × Bool)} {r : Rho} {ds : List Tw.D}, (∀ o ∈ is, o.2 = false) → parR r is ds = setRs r (is.map (·.1)) ds
  | [], r, [], _ => rfl
  | [], r, _ :: _, _ => rfl
  | (i, o) :: is, r, [], _ => rfl
  | (i, o) :: is, r, d :: ds, h => by
    have ho : o = false := h _ (.head _)
    subst ho
    unfold parR
    rw [if_neg Bool.false_ne_true]
    show _ = ((setR r i d).bind fun r => setRs r (is.map (·.1)) ds)
    congr 1
    funext r1
    exact parR_tg fun o z => h o (.tail _ z)
theorem sn_parN (xo : XOk g X c Wx lv) {is : List (Nat × Bool)} {es : Es} {ts xs : List Expr} {k k2 : Nat} {p p2 pos : Pos} (hf : ∀ o ∈ is, o.2 = false) (hle : is.length ≤ big) (hl : locsB c (is.map (·.1)) ts = true) (hsw : swO c.sc ts xs = some none) (hes : PA X xs (rdEs X.K g cs lv Wx es)) :
    PS X (.Assign [.Tuple ts k p] (.Tuple xs k2 p2) pos) (rdS X.K g cs lv Wx W0 H0 (.par is es)) := by
  refine PS.of (ps_asg (sn_tup (g := g) hes) (sn_gt (g := g) xo hl) (sw_sole rfl) (swO_ok (by rw [xo.sc]; exact hsw)) rfl) fun D σ H ⟨W, s, r, A, h⟩ => ?_
  refine ⟨W, s, r, A.ok, A.env, ?_⟩
  have e0 : evE cs r (.tup es) lv s = bnd (evEs cs r es lv s) fun xs s1 => if xs.length ≤ big then .ok (.tup xs) s1 else .bad := rfl
  have e1 : exS cs (.par is es) lv r s = bnd (evEs cs r es lv s) fun xs s1 => opt ((parR r is xs).map .nx) s1 := rfl
  rw [e1] at h
  rw [e0]
  have h' := PostS.bnd (σ := σ) A.ext h
  revert h h'
  cases evEs cs r es lv s with
  | bad => exact fun h _ => h.elim
  | ex z s1 => exact fun _ h => h
  | ok ds s1 =>
    intro h h'
    rw [bnd_ok] at h ⊢
    obtain ⟨r', e2, _⟩ := PostS.opt h
    have e3 : setRs r (is.map (·.1)) ds = some r' := (parR_tg hf).symm.trans e2
    have hl2 := setRs_len e3
    rw [if_pos (by rw [hl2]; simpa using hle)]
    intro W1 H1 x1 ok1 v rv
    obtain ⟨r2, f1, h2⟩ := PostS.opt (h' W1 H1 x1 ok1)
    have f2 : setRs r (is.map (·.1)) ds = some r2 := (parR_tg hf).symm.trans f1
    have f3 : tgR r (.tp (is.map (·.1))) (.tup ds) = some r2 := f2
    exact ⟨W1, s1, r, .tup ds, r2, ok1, A.env.ext x1, rv, f3, fun σ' en o => (tgR_At (A.ext' x1 ok1) f3 en o).nx h2⟩
theorem locOf {x : Str} (xo : XOk g X c Wx lv) (h : (c.sc.names.lookup x == some NameKind.local) = true) : X.env.scope.names.lookup x = some .local := by rw [xo.sc]; exact beq_iff_eq.mp h
theorem sn_par2 (xo : XOk g X c Wx lv) {i j : Nat} {o o' : Bool} {es : Es} {x y : Str} {a b : Expr} {k k2 : Nat} {px py p p2 pos : Pos} (h1 : c.N[i]? = some x) (h2 : c.N[j]? = some y) (hij : i ≠ j) (hx : (c.sc.names.lookup x == some NameKind.local) = true) (hy : (c.sc.names.lookup y == some NameKind.local) = true)
    (hsw : swO c.sc [.Name x px, .Name y py] [a, b] = some (some [x, y])) (hes : PA X [a, b] (rdPs X.K g cs lv Wx [(i, o), (j, o')] es)) :
    PS X (.Assign [.Tuple [.Name x px, .Name y py] k p] (.Tuple [a, b] k2 p2) pos) (rdS X.K g cs lv Wx W0 H0 (.par [(i, o), (j, o')] es)) := by
  refine PS.of (ps_par xo.calm (by rw [xo.N]; exact xo.nd) (by rw [xo.N]; exact h1) (by rw [xo.N]; exact h2) hij (locOf xo hx) (locOf xo hy) hes (swO_ok (by rw [xo.sc]; exact hsw)) (sw_sole rfl)) fun D σ H h => ?_
  obtain ⟨W, s, r, ok, en, h⟩ := rd_par h
  refine ⟨W, s, r, ok, en, h.mono fun ds s1 W1 H1 x1 ok1 h1 vs rs => ?_⟩
  obtain ⟨hl, q⟩ := h1 vs rs
  match vs, hl, q with
  | [v, w], _, q => exact ⟨v, w, rfl, q⟩
theorem sn_par3 (xo : XOk g X c Wx lv) {i j l : Nat} {o o' o'' : Bool} {es : Es} {x y z : Str} {a b d : Expr} {k k2 : Nat} {px py pz p p2 pos : Pos} (h1 : c.N[i]? = some x) (h2 : c.N[j]? = some y) (h3 : c.N[l]? = some z) (hij : i ≠ j) (hil : i ≠ l) (hjl : j ≠ l)
    (hx : (c.sc.names.lookup x == some NameKind.local) = true) (hy : (c.sc.names.lookup y == some NameKind.local) = true) (hz : (c.sc.names.lookup z == some NameKind.local) = true)
    (hsw : swO c.sc [.Name x px, .Name y py, .Name z pz] [a, b, d] = some (some [x, y, z])) (hes : PA X [a, b, d] (rdPs X.K g cs lv Wx [(i, o), (j, o'), (l, o'')] es)) :
    PS X (.Assign [.Tuple [.Name x px, .Name y py, .Name z pz] k p] (.Tuple [a, b, d] k2 p2) pos) (rdS X.K g cs lv Wx W0 H0 (.par [(i, o), (j, o'), (l, o'')] es)) := by
  refine PS.of (ps_par3 xo.calm (by rw [xo.N]; exact xo.nd) (by rw [xo.N]; exact h1) (by rw [xo.N]; exact h2) (by rw [xo.N]; exact h3) hij hil hjl (locOf xo hx) (locOf xo hy) (locOf xo hz) hes (swO_ok (by rw [xo.sc]; exact hsw)) (sw_sole rfl)) fun D σ H h => ?_
  obtain ⟨W, s, r, ok, en, h⟩ := rd_par h
  refine ⟨W, s, r, ok, en, h.mono fun ds s1 W1 H1 x1 ok1 h1 vs rs => ?_⟩
  obtain ⟨hl, q⟩ := h1 vs rs
  match vs, hl, q with
  | [v, w, u], _, q => exact ⟨v, w, u, rfl, q⟩
/-! ### while -/
theorem sn_whl {q : E} {body : Ss} {x : Expr} {xs : List Stmt} {pos : Pos} (hp : PassesOwn (model X.prog X.w) X.A X.env X.xe) (hq : PT X x (rdT X.K g cs lv Wx q)) (hb : PSs X xs (rdSs X.K g cs lv Wx W0 H0 body)) : PS X (.While x xs [] pos) (rdS X.K g cs lv Wx W0 H0 (.whl q body)) := by
  refine PS.of (ps_while hp hq hb) fun D σ H ⟨W, s, r, A, h⟩ => ?_
  refine ⟨fun m σ H => ∃ W s r, At X.K g W0 H0 W s r σ H ∧ PostS X.K g Wx W0 H0 W (whlLoop (fun r s => evE cs r q lv s) (fun r s => exSs cs body lv r s) m r s) D, ⟨1000, W, s, r, A, h⟩, ?_⟩
  rintro m σ H ⟨W, s, r, A, h⟩
  cases m with
  | zero => exact h.elim
  | succ m =>
    refine ⟨W, s, r, A.ok, A.env, (PostS.bnd (o := evE cs r q lv s) A.ext h).mono fun d s1 W1 H1 x1 ok1 h1 => ?_⟩
    have A1 := A.ext' x1 ok1
    split at h1
    · refine ⟨true, rfl, iteT ?_⟩
      refine ⟨fun σ H => ∃ W s r, At X.K g W0 H0 W s r σ H ∧ PostS X.K g Wx W0 H0 W (whlLoop (fun r s => evE cs r q lv s) (fun r s => exSs cs body lv r s) m r s) D, fun σ' H' n => ⟨m, Nat.lt_succ_self m, n⟩, W1, s1, r, A1, ?_⟩
      dsimp only at h1
      revert h1
      cases exSs cs body lv r s1 with
      | bad => exact fun h => h
      | ex z s2 => exact fun h => h
      | ok fl s2 =>
        cases fl with
        | rt d => exact fun h => h
        | nx r2 => exact fun h1 W2 H2 σ2 l2 x2 ok2 en2 ow2 => ⟨W2, s2, r2, ⟨x2, ok2, en2, ow2⟩, PostS.from h1 l2⟩
    · exact ⟨false, rfl, iteF (A1.nx h1)⟩
    · exact h1.elim
/-! ### raise -/
theorem sn_rai (go : GOk X.prog X.w X.K X.mg X.base g t cs lv) (xo : XOk g X c Wx lv) {j k : Nat} {x m : Str} {p p2 pos pos2 : Pos} (hx : t.excs[j]? = some x) (hj : j ≠ 11) (hg : glB c.sc x = true) (hn : nmOk x = true) :
    PS X (.Raise (some (.Call (.Name x p) [.Constant (.str m) k p2] [] pos)) none pos2) (rdS X.K g cs lv Wx W0 H0 (.rai j)) := by
  obtain ⟨C, e1, hm, hk, he⟩ := go.exc j x hx
  obtain ⟨bmB, B, n1, n2, F, q, h1, h2⟩ := he hj
  refine PS.of (L2N.ps_raise xo.calm xo.tk (L2N.pmk_own F q hm hk (raises_own h1 h2) (glB_ok xo.toXB hg) (nmOk_ok hn).1)) fun D σ H ⟨W, s, r, A, h⟩ => ?_
  exact h W H (.ref C) none σ (.refl W) A.ext A.ok ⟨C, e1, rfl, rfl⟩
/-- raise of the error that bears a limit -/
theorem sn_rail {k : Nat} (go : GOk X.prog X.w X.K X.mg X.base g t cs (k + 1)) (xo : XOk g X c Wx (k + 1)) {e : E} {x : Str} {ex : Expr} {p pos pos2 : Pos} (ht : t.tm = true) (hx : t.excs[11]? = some x) (hg : glB c.sc x = true) (hn : nmOk x = true) (hs : noStar ex = true)
    (he : PE X ex (rdE X.K g cs (k + 1) Wx e)) : PS X (.Raise (some (.Call (.Name x p) [ex] [] pos)) none pos2) (rdS X.K g cs (k + 1) Wx W0 H0 (.rail e)) := by
  obtain ⟨hsup, C, hC, fI, cc, cda, fd, m, ar, l, cd, p0, p1, p2, p3, p4, p5, p6, p7, p8, p9, j, T, hl, iC, tI⟩ := go.tm ht
  obtain ⟨C', hC', hm, _⟩ := go.exc 11 x hx
  rw [hC] at hC'
  cases hC'
  have hr : Room 1 X.A := ⟨xo.room.hd, by have := xo.room.dp; omega, by have := xo.room.un; omega⟩
  refine PS.of (L2N.ps_raise xo.calm xo.tk (pmk_tm T hl iC tI hr hsup (glB_ok xo.toXB hg) hm he (nmOk_ok hn).1 (star_no hs))) fun D σ H ⟨W, s, r, A, h⟩ => ?_
  refine ⟨W, s, r, A.ok, A.env, (PostS.bnd A.ext h).mono fun d s1 W1 H1 x1 ok1 h1 v rv dd hd => ?_⟩
  cases d with
  | int i =>
    cases rv
    exact h1 W1 _ (.ref C) (some dd) σ (.refl W1) ((A.ext.trans x1).trans (.alloc0 W1 hd)) (ok1.alloc0 hd) ⟨C, hC, rfl, dd, rfl, upd_same⟩
  | _ => exact h1.elim
/-! ### the ghost -/
theorem sn_frz {i : Nat} {D : Ends} {σ : L2.St} {H : Hp} {sts : Ss} (h : rdSs X.K g cs lv Wx W0 H0 (.cons (.frz i) sts) D σ H) : rdSs X.K g cs lv Wx W0 H0 sts D σ H := by
  obtain ⟨W, s, r, A, h⟩ := h
  have e : exSs cs (.cons (.frz i) sts) lv r s = match r[i]? with
    | some (.own xs) => exSs cs sts lv (r.set i (.v (.lst xs))) s
    | _ => exSs cs sts lv r s := by
    have e1 : exSs cs (.cons (.frz i) sts) lv r s = bnd (exS cs (.frz i) lv r s) fun fl s1 => match fl with
      | .nx r1 => exSs cs sts lv r1 s1
      | .rt x => .ok (.rt x) s1 := by rw [exSs] <;> rfl
    rw [e1]
    unfold exS
    cases r[i]? with
    | none => rfl
    | some sl => cases sl <;> rfl
  rw [e] at h
  split at h
  case h_2 => exact ⟨W, s, r, A, h⟩
  rename_i xs hr
  obtain ⟨a, vs, e1, e2, rp, e3, e4⟩ := rd_own A.env hr
  have hi : i < r.length := (List.getElem?_eq_some_iff.mp hr).1
  have le : Le W (W.frz a (.lst vs)) := .frz W e3
  have hH0 : Fr H0 a := A.own.new i xs a hr e1
  have own : ∀ (j : Nat) ds, (r.set i (.v (.lst xs)))[j]? = some (.own ds) → r[j]? = some (.own ds) ∧ j ≠ i := fun j ds hj => by
    by_cases z : j = i
    · subst z
      rw [List.getElem?_set_self hi] at hj; cases hj
    · rw [List.getElem?_set_ne (Ne.symm z)] at hj; exact ⟨hj, z⟩
  refine ⟨W.frz a (.lst vs), s, r.set i (.v (.lst xs)), ⟨⟨A.ext.le.trans le, fun b o hb => ?_, A.ext.newB, A.ext.keep, A.ext.there⟩, A.ok.freeze e2 e3 e4, ⟨by simp [A.env.len], fun j sl hj => ?_⟩, ⟨fun j ds b f1 f2 => ?_, fun j k ds es b f1 f2 f3 f4 => ?_⟩⟩, PostS.from h le⟩
  · by_cases z : b = a
    · rw [z]; exact .inr hH0
    · have hb' : upd W.F a (.lst vs) b = some o := hb
      rw [upd_ne z] at hb'
      exact A.ext.newF b o hb'
  · by_cases z : j = i
    · subst z
      rw [List.getElem?_set_self hi] at hj
      cases hj
      exact ⟨.ref a, e1, rep_lst e3 rp⟩
    · rw [List.getElem?_set_ne (Ne.symm z)] at hj
      have q := A.env.at_ j sl hj
      cases sl with
      | no => trivial
      | v d => obtain ⟨v, q1, q2⟩ := q; exact ⟨v, q1, q2.mono le⟩
      | own ds =>
        obtain ⟨b, us, q1, q2, q3, q4, q5⟩ := q
        refine ⟨b, us, q1, q2, q3.mono le, ?_, q5⟩
        have hne : b ≠ a := fun y => z (A.own.inj j i ds xs b hj hr q1 (by rw [y]; exact e1))
        show upd W.F a (.lst vs) b = none
        rw [upd_ne hne]; exact q4
  · exact A.own.new j ds b (own j ds f1).1 f2
  · exact A.own.inj j k ds es b (own j ds f1).1 (own k es f2).1 f3 f4
end
end Tw
end
section
/-! Part N: every slim statement that fits. -/
namespace Tw
open PySem PySem.Spec PyProof.Rows L2
def nameB (c : Cc) (i : Nat) (x : Str) : Bool := decide (c.N[i]? = some x) && locB c x
/-- an expression that makes a new list -/
def chkF (t : Tn) (c : Cc) : E → Expr → Bool
  | .lst es, ex => chkE t c false (.lst es) ex
  | .lc own tg it q e, ex => chkE t c false (.lc own tg it q e) ex
  | .bi .list es, ex => chkE t c false (.bi .list es) ex
  | _, _ => false
def chkPs (t : Tn) (c : Cc) : List (Nat × Bool) → Es → List Expr → Bool
  | [], .nil, [] => true
  | (_, o) :: is, .cons e es, x :: xs => noStar x && (if o then chkF t c e x else chkE t c false e x) && chkPs t c is es xs
  | _, _, _ => false
def parB (c : Cc) : List (Nat × Bool) → List Expr → List Expr → Bool
  | [(i, _), (j, _)], [.Name x px, .Name y py], vs => decide (c.N[i]? = some x) && decide (c.N[j]? = some y) && decide (i ≠ j) && (c.sc.names.lookup x == some NameKind.local) && (c.sc.names.lookup y == some NameKind.local) && decide (swO c.sc [.Name x px, .Name y py] vs = some (some [x, y]))
  | [(i, _), (j, _), (l, _)], [.Name x px, .Name y py, .Name z pz], vs => decide (c.N[i]? = some x) && decide (c.N[j]? = some y) && decide (c.N[l]? = some z) && decide (i ≠ j) && decide (i ≠ l) && decide (j ≠ l) &&
    (c.sc.names.lookup x == some NameKind.local) && (c.sc.names.lookup y == some NameKind.local) && (c.sc.names.lookup z == some NameKind.local) && decide (swO c.sc [.Name x px, .Name y py, .Name z pz] vs = some (some [x, y, z]))
  | _, _, _ => false
def isLc : E → Bool
  | .lc .. => true
  | _ => false
mutual
def chkS (t : Tn) (c : Cc) : St → Stmt → Bool
  | .set i e, st => match st with
    | .Assign [.Name x _] v _ => nameB c i x && chkE t c false e v && (noComp v || isLc e)
    | _ => false
  | .setO i e, st => match st with
    | .Assign [.Name x _] v _ => nameB c i x && chkF t c e v && (noComp v || isLc e)
    | _ => false
  | .unp is e, st => match st with
    | .Assign [.Tuple es _ _] v _ => locsB c is es && noComp v && noTup v && chkE t c false e v
    | _ => false
  | .par is es, st => match st with
    | .Assign [.Tuple ts _ _] (.Tuple vs _ _) _ => (chkPs t c is es vs && parB c is ts vs) || (is.all (fun o => !o.2) && decide (is.length ≤ big) && locsB c (is.map (·.1)) ts && decide (swO c.sc ts vs = some none) && chkEs t c es vs)
    | _ => false
  | .app i e, st => match st with
    | .Expr (.Call (.Attribute (.Name x _) a apos) [ex] [] pos) _ => slotB c i x && decide (a = ("append" : Str)) && noStar ex && (apos.endLine == pos.line) && chkE t c false e ex
    | _ => false
  | .sto i j e, st => match st with
    | .Assign [.Subscript (.Name x _) jx _] ex _ => slotB c i x && noComp ex && noSlice jx && chkE t c false e ex && chkE t c false j jx
    | _ => false
  | .stb i j e, st => match st with
    | .Assign [.Subscript (.Name x _) jx _] ex _ => slotB c i x && noComp ex && noSlice jx && chkE t c false e ex && chkE t c false j jx
    | _ => false
  | .ifs q a b, st => match st with
    | .If x xs ys _ => chkE t c true q x && chkSs t c a xs && chkSs t c b ys
    | _ => false
  | .for tg it body, st => match st with
    | .For k x xs [] _ => noSet x && chkI t c (isTup k) it x && tgB c tg k && chkSs t c body xs
    | _ => false
  | .whl q body, st => match st with
    | .While x xs [] _ => chkE t c true q x && chkSs t c body xs
    | _ => false
  | .ret e, st => match st with
    | .Return (some x) _ => chkE t c false e x
    | _ => false
  | .retB e, st => match st with
    | .Return (some x) _ => chkF t c e x
    | _ => false
  | .rai j, st => match st with
    | .Raise (some (.Call (.Name x _) [.Constant (.str _) _ _] [] _)) none _ => decide (t.excs[j]? = some x) && decide (j ≠ 11) && glB c.sc x && nmOk x
    | _ => false
  | .rail e, st => match st with
    | .Raise (some (.Call (.Name x _) [ex] [] _)) none _ => t.tm && decide (t.excs[11]? = some x) && glB c.sc x && nmOk x && noStar ex && chkE t c false e ex
    | _ => false
  | .exp e, st => match st with
    | .Expr x _ => noComp x && chkE t c false e x
    | _ => false
  | .frz _, _ => false
  | .nev, _ => true
def chkSs (t : Tn) (c : Cc) : Ss → List Stmt → Bool
  | .nil, sts => match sts with
    | [] => true
    | _ => false
  | .cons a as, sts => match a with
    | .frz _ => chkSs t c as sts
    | a => match sts with
      | st :: sts => chkS t c a st && chkSs t c as sts
      | _ => false
end
section
variable {X : Cx} {c : Cc} {t : Tn} {g : Ga} {cs : Cs} {Wx : WX} {lv : Nat} {W0 : Wd} {H0 : Hp}
/-- a comprehension that fits: as a new list, and stored -/
theorem lc_inv (go : GOk X.prog X.w X.K X.mg X.base g t cs lv) (xo : XOk g X c Wx lv) {own : List Nat} {tg : Tg} {it : It} {q : Eo} {e : E} {v : Expr} (h : chkE t c false (.lc own tg it q e) v = true) :
    PE X v (rdF X.K g cs lv Wx (.lc own tg it q e)) ∧ ∀ (i : Nat) (x : Str) (p pos : Pos), c.N[i]? = some x → locB c x = true → PS X (.Assign [.Name x p] v pos) (tAsg (rdF X.K g cs lv Wx (.lc own tg it q e)) (gName i)) := by
  unfold chkE at h
  split at h <;> first | contradiction | skip
  obtain ⟨h, h10⟩ := ba h
  obtain ⟨h, h9⟩ := ba h
  obtain ⟨h, h8⟩ := ba h
  obtain ⟨h, h7⟩ := ba h
  obtain ⟨h, h6⟩ := ba h
  obtain ⟨h, h5⟩ := ba h
  obtain ⟨h, h4⟩ := ba h
  obtain ⟨h, h3⟩ := ba h
  obtain ⟨h1, h2⟩ := ba h
  have e := of_decide_eq_true h2
  subst e
  have a1 := fun i hi => of_decide_eq_true (List.all_eq_true.mp h4 i hi)
  have a2 := fun i hi => of_decide_eq_true (List.all_eq_true.mp h5 i hi)
  have a3 := sndI it go xo _ _ h7
  have a4 := fun (s : Shared) (H : Hp) (C : Addr) (cls : List (Str × Addr)) (fp : List Addr) => sndC (cs := cs) (lv := lv) q (go.blk _ s H _ fp) (xo.blk _ s H C cls fp) _ h9
  have a5 := fun (s : Shared) (H : Hp) (C : Addr) (cls : List (Str × Addr)) (fp : List Addr) => (sndE (cs := cs) (lv := lv) e (go.blk _ s H _ fp) (xo.blk _ s H C cls fp) false _ h10).pe
  exact ⟨sn_lcF xo h3 a1 a2 h6 a3 h8 a4 a5, fun i x p pos n1 n2 => sn_asgL xo n1 n2 h3 a1 a2 h6 a3 h8 a4 a5⟩
theorem sndF (go : GOk X.prog X.w X.K X.mg X.base g t cs lv) (xo : XOk g X c Wx lv) {e : E} {v : Expr} (h : chkF t c e v = true) : PE X v (rdF X.K g cs lv Wx e) := by
  unfold chkF at h
  split at h
  · unfold chkE at h
    split at h <;> first | contradiction | skip
    exact snF_lst (sndEs _ go xo _ (ba h).2)
  · exact (lc_inv go xo h).1
  · unfold chkE at h
    split at h <;> first | contradiction | skip
    obtain ⟨h, h5⟩ := ba h
    obtain ⟨h, h4⟩ := ba h
    obtain ⟨h, h3⟩ := ba h
    obtain ⟨h1, h2⟩ := ba h
    exact snF_list go xo h2 h3 (sndEs _ go xo _ h5) fun e => by rw [e] at h4; cases h4
  · cases h
theorem nameB_ok {i : Nat} {x : Str} (h : nameB c i x = true) : c.N[i]? = some x ∧ locB c x = true := ⟨of_decide_eq_true (ba h).1, (ba h).2⟩
theorem snd_set (go : GOk X.prog X.w X.K X.mg X.base g t cs lv) (xo : XOk g X c Wx lv) {i : Nat} {e : E} {x : Str} {v : Expr} {p pos : Pos} (h1 : nameB c i x = true) (h2 : chkE t c false e v = true) (h3 : (noComp v || isLc e) = true) :
    PS X (.Assign [.Name x p] v pos) (rdS X.K g cs lv Wx W0 H0 (.set i e)) := by
  obtain ⟨n1, n2⟩ := nameB_ok h1
  by_cases hn : noComp v = true
  · exact PS.of (sn_asg xo.toXB n1 n2 hn (sndE e go xo false _ h2).pe) fun D σ H q => rd_set q
  · cases e with
    | lc own tg it q e => exact PS.of ((lc_inv go xo h2).2 i x p pos n1 n2) fun D σ H q => rdF_of (rd_set q)
    | _ => simp [hn, isLc] at h3
theorem snd_setO (go : GOk X.prog X.w X.K X.mg X.base g t cs lv) (xo : XOk g X c Wx lv) {i : Nat} {e : E} {x : Str} {v : Expr} {p pos : Pos} (h1 : nameB c i x = true) (h2 : chkF t c e v = true) (h3 : (noComp v || isLc e) = true) :
    PS X (.Assign [.Name x p] v pos) (rdS X.K g cs lv Wx W0 H0 (.setO i e)) := by
  obtain ⟨n1, n2⟩ := nameB_ok h1
  by_cases hn : noComp v = true
  · exact PS.of (sn_asg xo.toXB n1 n2 hn (sndF go xo h2)) fun D σ H q => rd_setO q
  · cases e with
    | lc own tg it q e => exact PS.of ((lc_inv go xo (by unfold chkF at h2; exact h2)).2 i x p pos n1 n2) fun D σ H q => rd_setO q
    | _ => simp [hn, isLc] at h3
theorem snd_ps (go : GOk X.prog X.w X.K X.mg X.base g t cs lv) (xo : XOk g X c Wx lv) : ∀ {is : List (Nat × Bool)} {es : Es} {xs : List Expr}, chkPs t c is es xs = true → PA X xs (rdPs X.K g cs lv Wx is es)
  | [], .nil, [], _ => sn_ps0
  | (i, o) :: is, .cons e es, x :: xs, h => by
    unfold chkPs at h
    obtain ⟨h, h3⟩ := ba h
    obtain ⟨h1, h2⟩ := ba h
    cases o with
    | true => exact sn_psT h1 (sndF go xo (by simpa using h2)) (snd_ps go xo h3)
    | false => exact sn_psF h1 (sndE e go xo false _ (by simpa using h2)).pe (snd_ps go xo h3)
  | [], .nil, _ :: _, h => by unfold chkPs at h; cases h
  | [], .cons _ _, _, h => by unfold chkPs at h; cases h
  | _ :: _, .nil, _, h => by unfold chkPs at h; cases h
  | _ :: _, .cons _ _, [], h => by unfold chkPs at h; cases h
theorem chkPs_len : ∀ {is : List (Nat × Bool)} {es : Es} {xs : List Expr}, chkPs t c is es xs = true → xs.length = is.length
  | [], .nil, [], _ => rfl
  | (i, o) :: is, .cons e es, x :: xs, h => by
    unfold chkPs at h
    simp [chkPs_len (ba h).2]
  | [], .nil, _ :: _, h => by unfold chkPs at h; cases h
  | [], .cons _ _, _, h => by unfold chkPs at h; cases h
  | _ :: _, .nil, _, h => by unfold chkPs at h; cases h
  | _ :: _, .cons _ _, [], h => by unfold chkPs at h; cases h
theorem snd_par (go : GOk X.prog X.w X.K X.mg X.base g t cs lv) (xo : XOk g X c Wx lv) {is : List (Nat × Bool)} {es : Es} {ts vs : List Expr} {k k2 : Nat} {p p2 pos : Pos} (h : chkPs t c is es vs = true) (h2 : parB c is ts vs = true) :
    PS X (.Assign [.Tuple ts k p] (.Tuple vs k2 p2) pos) (rdS X.K g cs lv Wx W0 H0 (.par is es)) := by
  have hp := snd_ps (cs := cs) (lv := lv) (Wx := Wx) go xo h
  have hl := chkPs_len h
  unfold parB at h2
  split at h2
  · obtain ⟨h2, b6⟩ := ba h2
    obtain ⟨h2, b5⟩ := ba h2
    obtain ⟨h2, b4⟩ := ba h2
    obtain ⟨h2, b3⟩ := ba h2
    obtain ⟨b1, b2⟩ := ba h2
    match vs, hl, hp, b6 with
    | [a, b], _, hp, b6 => exact sn_par2 xo (of_decide_eq_true b1) (of_decide_eq_true b2) (of_decide_eq_true b3) b4 b5 (of_decide_eq_true b6) hp
  · obtain ⟨h2, b10⟩ := ba h2
    obtain ⟨h2, b9⟩ := ba h2
    obtain ⟨h2, b8⟩ := ba h2
    obtain ⟨h2, b7⟩ := ba h2
    obtain ⟨h2, b6⟩ := ba h2
    obtain ⟨h2, b5⟩ := ba h2
    obtain ⟨h2, b4⟩ := ba h2
    obtain ⟨h2, b3⟩ := ba h2
    obtain ⟨b1, b2⟩ := ba h2
    match vs, hl, hp, b10 with
    | [a, b, d], _, hp, b10 => exact sn_par3 xo (of_decide_eq_true b1) (of_decide_eq_true b2) (of_decide_eq_true b3) (of_decide_eq_true b4) (of_decide_eq_true b5) (of_decide_eq_true b6) b7 b8 b9 (of_decide_eq_true b10) hp
  · cases h2
theorem rdSs_nil {D : Ends} {σ : L2.St} {H : Hp} (h : rdSs X.K g cs lv Wx W0 H0 .nil D σ H) : D.nx σ H := by
  obtain ⟨W, s, r, A, h⟩ := h
  exact A.nx h
theorem rdSs_cons {a : St} {as : Ss} {D : Ends} {σ : L2.St} {H : Hp} (h : rdSs X.K g cs lv Wx W0 H0 (.cons a as) D σ H) : tSeq (rdS X.K g cs lv Wx W0 H0 a) (rdSs X.K g cs lv Wx W0 H0 as) D σ H := by
  obtain ⟨W, s, r, A, h⟩ := h
  refine ⟨W, s, r, A, ?_⟩
  have e1 : exSs cs (.cons a as) lv r s = bnd (exS cs a lv r s) fun fl s1 => match fl with
      | .nx r1 => exSs cs as lv r1 s1
      | .rt x => .ok (.rt x) s1 := by rw [exSs] <;> rfl
  rw [e1] at h
  revert h
  cases exS cs a lv r s with
  | bad => exact fun h => h
  | ex z s1 => exact fun h => h
  | ok fl s1 =>
    cases fl with
    | rt d => exact fun h => h
    | nx r1 => exact fun h W1 H1 σ1 l1 x1 ok1 en1 ow1 => ⟨W1, s1, r1, ⟨x1, ok1, en1, ow1⟩, PostS.from h l1⟩
/-- what a def's body may count on -/
structure BOk (X : Cx) : Prop where
  own : PassesOwn (model X.prog X.w) X.A X.env X.xe
mutual
theorem sndS (go : GOk X.prog X.w X.K X.mg X.base g t cs lv) (xo : XOk g X c Wx lv) (bo : BOk X) : ∀ (a : St) (st : Stmt), chkS t c a st = true → PS X st (rdS X.K g cs lv Wx W0 H0 a)
  | .set i e, st, h => by
    unfold chkS at h
    split at h <;> first | contradiction | skip
    obtain ⟨h, h3⟩ := ba h
    obtain ⟨h1, h2⟩ := ba h
    exact snd_set go xo h1 h2 h3
  | .setO i e, st, h => by
    unfold chkS at h
    split at h <;> first | contradiction | skip
    obtain ⟨h, h3⟩ := ba h
    obtain ⟨h1, h2⟩ := ba h
    exact snd_setO go xo h1 h2 h3
  | .unp is e, st, h => by
    unfold chkS at h
    split at h <;> first | contradiction | skip
    obtain ⟨h, h4⟩ := ba h
    obtain ⟨h, h3⟩ := ba h
    obtain ⟨h1, h2⟩ := ba h
    exact sn_unp xo h1 h2 h3 (sndE e go xo false _ h4).pe
  | .par is es, st, h => by
    unfold chkS at h
    split at h <;> first | contradiction | skip
    rcases Bool.or_eq_true_iff.mp h with h | h
    · exact snd_par go xo (ba h).1 (ba h).2
    · obtain ⟨h, h5⟩ := ba h
      obtain ⟨h, h4⟩ := ba h
      obtain ⟨h, h3⟩ := ba h
      obtain ⟨h1, h2⟩ := ba h
      exact sn_parN xo (fun o ho => notT (List.all_eq_true.mp h1 o ho)) (of_decide_eq_true h2) h3 (of_decide_eq_true h4) (sndEs es go xo _ h5)
  | .app i e, st, h => by
    unfold chkS at h
    split at h <;> first | contradiction | skip
    obtain ⟨h, h5⟩ := ba h
    obtain ⟨h, h4⟩ := ba h
    obtain ⟨h, h3⟩ := ba h
    obtain ⟨h1, h2⟩ := ba h
    have e0 := of_decide_eq_true h2
    subst e0
    exact sn_app xo h1 h3 h4 (sndE e go xo false _ h5).pe
  | .sto i j e, st, h => by
    unfold chkS at h
    split at h <;> first | contradiction | skip
    obtain ⟨h, h5⟩ := ba h
    obtain ⟨h, h4⟩ := ba h
    obtain ⟨h, h3⟩ := ba h
    obtain ⟨h1, h2⟩ := ba h
    exact sn_sto xo h1 h2 h3 (sndE e go xo false _ h4).pe (sndE j go xo false _ h5).pe
  | .stb i j e, st, h => by
    unfold chkS at h
    split at h <;> first | contradiction | skip
    obtain ⟨h, h5⟩ := ba h
    obtain ⟨h, h4⟩ := ba h
    obtain ⟨h, h3⟩ := ba h
    obtain ⟨h1, h2⟩ := ba h
    exact sn_stb xo h1 h2 h3 (sndE e go xo false _ h4).pe (sndE j go xo false _ h5).pe
  | .ifs q a b, st, h => by
    unfold chkS at h
    split at h <;> first | contradiction | skip
    obtain ⟨h, h3⟩ := ba h
    obtain ⟨h1, h2⟩ := ba h
    exact sn_if (sndE q go xo true _ h1).pt (sndSs go xo bo a _ h2) (sndSs go xo bo b _ h3)
  | .for tg it body, st, h => by
    unfold chkS at h
    split at h <;> first | contradiction | skip
    obtain ⟨h, h4⟩ := ba h
    obtain ⟨h, h3⟩ := ba h
    obtain ⟨h1, h2⟩ := ba h
    exact sn_for xo bo.own h1 (sndI it go xo _ _ h2) (sn_tg xo h3) (sndSs go xo bo body _ h4)
  | .whl q body, st, h => by
    unfold chkS at h
    split at h <;> first | contradiction | skip
    obtain ⟨h1, h2⟩ := ba h
    exact sn_whl bo.own (sndE q go xo true _ h1).pt (sndSs go xo bo body _ h2)
  | .ret e, st, h => by
    unfold chkS at h
    split at h <;> first | contradiction | skip
    exact sn_ret (sndE e go xo false _ h).pe
  | .retB e, st, h => by
    unfold chkS at h
    split at h <;> first | contradiction | skip
    exact sn_retB (sndF go xo h)
  | .rai j, st, h => by
    unfold chkS at h
    split at h <;> first | contradiction | skip
    obtain ⟨h, h4⟩ := ba h
    obtain ⟨h, h3⟩ := ba h
    obtain ⟨h1, h2⟩ := ba h
    exact sn_rai go xo (of_decide_eq_true h1) (of_decide_eq_true h2) h3 h4
  | .rail e, st, h => by
    unfold chkS at h
    split at h <;> first | contradiction | skip
    obtain ⟨h, h6⟩ := ba h
    obtain ⟨h, h5⟩ := ba h
    obtain ⟨h, h4⟩ := ba h
    obtain ⟨h, h3⟩ := ba h
    obtain ⟨h1, h2⟩ := ba h
    match lv, go, xo with
    | 0, go, xo => exact ⟨fun pins s σ H D I ⟨W, s', r, A, q⟩ => q.elim⟩
    | k + 1, go, xo => exact sn_rail go xo h1 (of_decide_eq_true h2) h3 h4 h5 (sndE e go xo false _ h6).pe
  | .exp e, st, h => by
    unfold chkS at h
    split at h <;> first | contradiction | skip
    obtain ⟨h1, h2⟩ := ba h
    exact sn_exp h1 (sndE e go xo false _ h2).pe
  | .frz i, st, h => by unfold chkS at h; cases h
  | .nev, st, h => sn_nev
theorem sndSs (go : GOk X.prog X.w X.K X.mg X.base g t cs lv) (xo : XOk g X c Wx lv) (bo : BOk X) : ∀ (as : Ss) (sts : List Stmt), chkSs t c as sts = true → PSs X sts (rdSs X.K g cs lv Wx W0 H0 as)
  | .nil, sts, h => by
    unfold chkSs at h
    split at h <;> first | contradiction | skip
    exact PSs.of pss_nil fun D σ H q => rdSs_nil q
  | .cons a as, sts, h => by
    unfold chkSs at h
    split at h
    · exact PSs.of (sndSs go xo bo as sts h) fun D σ H q => sn_frz q
    · split at h <;> first | contradiction | skip
      obtain ⟨h1, h2⟩ := ba h
      exact PSs.of (pss_cons (sndS go xo bo a _ h1) (sndSs go xo bo as _ h2)) fun D σ H q => rdSs_cons q
end
end
end Tw
end
section
/-! Part Z: a def called while an error is in hand: its classes asked, a comprehension over zip. -/
namespace Tw
open PySem PySem.Spec PyProof.Rows L2 HotX L2H
/-- what a class must say, so that isinstance asks its instances rightly -/
structure XcC (K : PySem.W.Frag) (D : Addr) : Prop where
  cl : (PySem.W.clsIn K D).isSome = true
  ga : PySem.W.findIn K (.ref D) "__getattribute__" = some (some (.builtin "BaseException.__getattribute__"))
  gt : PySem.W.findIn K (.ref D) "__getattr__" = some none
  sb : PySem.W.subIn K (.ref D) (.type "BaseException") = some true
  ca : PySem.W.findIn K (.ref D) "__class__" = some (some (.builtin "object.__class__"))
  sp : PySem.W.specialIn K (.builtin "object.__class__") "__get__" = some (some (.builtin "getset_descriptor.__get__"))
  tk : PySem.W.takesIn K (.builtin "object.__class__") = some true
  mr : PySem.W.mroIn K D (.type "object") = some true
def excCB (K : PySem.W.Frag) (C : Addr) : Bool := (PySem.W.clsIn K C).isSome && decide (PySem.W.findIn K (.ref C) "__getattribute__" = some (some (.builtin "BaseException.__getattribute__"))) && decide (PySem.W.findIn K (.ref C) "__getattr__" = some none) && decide (PySem.W.subIn K (.ref C) (.type "BaseException") = some true) &&
  decide (PySem.W.findIn K (.ref C) "__class__" = some (some (.builtin "object.__class__"))) && decide (PySem.W.specialIn K (.builtin "object.__class__") "__get__" = some (some (.builtin "getset_descriptor.__get__"))) && decide (PySem.W.takesIn K (.builtin "object.__class__") = some true) && decide (PySem.W.mroIn K C (.type "object") = some true)
theorem excCB_ok {K : PySem.W.Frag} {C : Addr} (h : excCB K C = true) : XcC K C := by
  unfold excCB at h
  simp only [Bool.and_eq_true, decide_eq_true_eq] at h
  obtain ⟨⟨⟨⟨⟨⟨⟨h1, h2⟩, h3⟩, h4⟩, h5⟩, h6⟩, h7⟩, h8⟩ := h
  exact ⟨h1, h2, h3, h4, h5, h6, h7, h8⟩
section
variable {X : Cx} {c : Cc} {t : Tn} {g : Ga} {cs : Cs} {Wx : WX} {lv : Nat} {p : Addr × Obj}
/-- isinstance(e, c), e the error in hand -/
theorem call_isH {D : Addr} {d : Option Addr} (C : XcC X.K D) (hp : p ∈ X.pn) (hz : Zc (.ref D) d p.2) (hf : ∃ vs, p.2.data = .fields vs) :
    CallR X (.builtin "isinstance") (fun xs H Q => ∃ (k : V) (kv : Value) (b : Bool), xs = [.ref p.1, k] ∧ (∀ u, RelV k u → u = kv) ∧ PySem.W.kitOne X.K (.ref D) kv = some b ∧ (∀ dd, d = some dd → ∃ fs, H dd = some (.xd fs)) ∧ Q (.bl b) H) := by
  intro pins s σ H xs us Q I r ⟨k, kv, b, e1, hk, e, hd, q⟩
  subst e1
  cases r with
  | cons rx rr =>
  cases rr with
  | cons rt rr =>
  cases rr
  cases rx
  have ec := hk _ rt
  subst ec
  have hget := (I.pin p (List.mem_append_left _ hp)).1
  obtain ⟨vs, hv⟩ := hf
  have J : ∃ od, PySem.W.InstAt s.heap p.1 p.2 D od := by
    cases d with
    | none => exact ⟨none, hget, hz.1, by unfold PySem.W.notCls; rw [hv] <;> rfl, by rw [hz.2]; trivial⟩
    | some dd =>
      obtain ⟨fs, hfs⟩ := hd dd rfl
      obtain ⟨mA, hns, hr⟩ := (I.hok dd _ hfs : ObjOk X.prog X.w H s.heap dd (.xd fs))
      obtain ⟨od, ho, hl⟩ := lookIn_ns hns
      exact ⟨some od, hget, hz.1, by unfold PySem.W.notCls; rw [hv] <;> rfl, by rw [hz.2]; exact ho⟩
  obtain ⟨od, J⟩ := J
  exact PySem.W.kia_one (PySem.W.kitx_exc C.cl C.ga C.gt C.sb C.ca C.sp C.tk C.mr) I.kIn J e (fun z => nomatch z) fun tk => ⟨.bl b, H, I.kept (t' := tk) fun _ _ z => z, rfl, q⟩
/-- where such a def's body stands -/
structure XH (g : Ga) (X : Cx) (c : Cc) (p : Addr × Obj) : Prop extends XB X c where
  hot : Hot1 X.A p
  pin : p ∈ X.pn
  err : ∃ cn d C, g.cx = some (p.1, cn, d) ∧ g.xa[cn]? = some C ∧ Zc (.ref C) d p.2 ∧ (∃ vs, p.2.data = .fields vs) ∧ XcC X.K C ∧ (∀ (k : Nat) D, g.xa[k]? = some D → PySem.W.kitOne X.K (.ref C) (.ref D) = some (decide (cn = k))) ∧ PySem.W.kitOne X.K (.ref C) (.type "ValueError") = some true
theorem sn_isx (go : GOk X.prog X.w X.K X.mg X.base g t cs lv) (xh : XH g X c p) {a : E} {k : Nat} {e : Expr} {x y : Str} {p1 p2 pos : Pos} (hx : bltB t c.sc x "isinstance" = true) (hs : noStar e = true) (hy : t.excs[k]? = some y) (hg : glB c.sc y = true) (hn : nmOk y = true) (ha : PE X e (rdE X.K g cs lv Wx a)) :
    PE X (.Call (.Name x p1) [e, .Name y p2] [] pos) (rdE X.K g cs lv Wx (.isx a k)) := by
  obtain ⟨rfl, hgx, hm⟩ := bltB_ok go xh.toXB hx
  obtain ⟨cn, d, C, e1, e2, hz, hf, hC, hk, _⟩ := xh.err
  obtain ⟨D, e3, hmD, _⟩ := go.exc k y hy
  refine PE.of (pe_callB (call_isH hC xh.pin hz hf) hgx hm PyProof.Rows.boot_isinstance (pa_cons ha (pa_cons (pe_glob (v := .ref D) (glB_ok xh.toXB hg) hmD rfl (nmOk_ok hn).1) pa_nil rfl) (star_no hs)) (by decide) (by decide) (star_no hs) rfl) fun σ H Q ⟨W, s, r, ok, en, h⟩ => ?_
  refine ⟨W, s, r, ok, en, (Post.bnd h).mono fun y s1 W1 H1 x1 ok1 h1 v rv => ?_⟩
  cases y with
  | xc c' =>
    obtain ⟨a', d', ev, e4, h4⟩ := rv
    rw [e1] at e4
    cases e4
    exact ⟨.ref D, .ref D, _, by rw [ev], fun u hu => hu, hk k D e3, fun dd hd => (h4 dd hd).imp fun fs z => ok1.sub _ _ z, Post.now h1 ok1 _ rfl⟩
  | _ => exact h1.elim
theorem sn_isv (go : GOk X.prog X.w X.K X.mg X.base g t cs lv) (xh : XH g X c p) {a : E} {e : Expr} {x y : Str} {p1 p2 pos : Pos} (hx : bltB t c.sc x "isinstance" = true) (hs : noStar e = true) (hy : bltB t c.sc y "ValueError" = true) (ha : PE X e (rdE X.K g cs lv Wx a)) :
    PE X (.Call (.Name x p1) [e, .Name y p2] [] pos) (rdE X.K g cs lv Wx (.isv a)) := by
  obtain ⟨rfl, hgx, hm⟩ := bltB_ok go xh.toXB hx
  obtain ⟨rfl, hgy, hmy⟩ := bltB_ok go xh.toXB hy
  obtain ⟨cn, d, C, e1, e2, hz, hf, hC, _, hk⟩ := xh.err
  refine PE.of (pe_callB (call_isH hC xh.pin hz hf) hgx hm PyProof.Rows.boot_isinstance (pa_cons ha (pa_cons (pe_bltn (v := .ty "ValueError") hgy hmy (by decide +kernel) rfl (by decide +kernel) (by decide +kernel)) pa_nil rfl) (star_no hs)) (by decide) (by decide) (star_no hs) rfl) fun σ H Q ⟨W, s, r, ok, en, h⟩ => ?_
  refine ⟨W, s, r, ok, en, (Post.bnd h).mono fun y s1 W1 H1 x1 ok1 h1 v rv => ?_⟩
  cases y with
  | xc c' =>
    obtain ⟨a', d', ev, e4, h4⟩ := rv
    rw [e1] at e4
    cases e4
    exact ⟨.ty "ValueError", .type "ValueError", _, by rw [ev], fun u hu => hu, hk, fun dd hd => (h4 dd hd).imp fun fs z => ok1.sub _ _ z, Post.now h1 ok1 _ rfl⟩
  | _ => exact h1.elim
/-- the comprehension's reading by the evaluator -/
theorem lz_read {own is : List Nat} {a b e q : E} {σ : L2.St} {H : Hp} {Q : VK} (hsl : ∀ j ∈ is, j ∈ own) (hL : ∀ r s xs ys s1 s2, evE cs r a lv s = .ok (.tup xs) s1 → evE cs r b lv s1 = .ok (.tup ys) s2 → False) (h : rdE X.K g cs lv Wx (.lc own (.tp is) (.zip a b) (.so q) e) σ H Q) :
    tLzH X.K (rdEs X.K g cs lv Wx (.cons a (.cons b .nil))) (rdGs X.K g is) (rdC X.K g cs lv (.so q)) (rdE X.K g cs lv WF e) own σ H Q := by
  obtain ⟨W, s, r, ok, en, h⟩ := rdF_of h
  rw [evE_lc] at h
  refine ⟨W, s, r, ok, en, ?_⟩
  -- the lists
  have e0 : ∀ f : List D → S → Out D, bnd (evI cs r (.zip a b) lv s) f = bnd (evE cs r a lv s) fun x s1 => bnd (evE cs r b lv s1) fun y s2 => bnd (opt (zipD x y) s2) f := fun f => by
    show bnd (bnd (evE cs r a lv s) fun x s1 => bnd (evE cs r b lv s1) fun y s2 => opt (zipD x y) s2) f = _
    cases evE cs r a lv s with
    | ok x s1 =>
      simp only [bnd_ok]
      cases evE cs r b lv s1 <;> rfl
    | _ => rfl
  rw [e0] at h
  have h0 := h
  have e1 : evEs cs r (.cons a (.cons b .nil)) lv s = bnd (evE cs r a lv s) fun x s1 => bnd (bnd (evE cs r b lv s1) fun y s2 => .ok [y] s2) fun xs s2 => .ok (x :: xs) s2 := rfl
  rw [e1]
  revert h0
  clear h
  cases hx : evE cs r a lv s with
  | bad => exact fun h => h
  | ex z s1 => exact fun h => h
  | ok x s1 =>
    simp only [bnd_ok]
    cases hy : evE cs r b lv s1 with
    | bad => exact fun h => h
    | ex z s2 => exact fun h => h
    | ok y s2 =>
      simp only [bnd_ok]
      intro h W1 H1 x1 ok1 vs rv
      have h1 := Post.from (o := bnd (opt (zipD x y) s2) _) h x1
      obtain ⟨v, u, ev, rx, ry⟩ := rv.inv2
      subst ev
      cases hz : zipD x y with
      | none => rw [hz] at h1; exact h1.elim
      | some ds =>
        rw [hz] at h1
        simp only [opt_some, bnd_ok] at h1
        unfold zipD at hz
        split at hz
        · rename_i xs ys
          exact (hL _ _ _ _ _ _ hx hy).elim
        · rename_i xs ys
          cases hz
          obtain ⟨pa, us, rfl, hpa, ra⟩ := rx
          obtain ⟨pb, ws, rfl, hpb, rb⟩ := ry
          refine ⟨pa, pb, us, ws, rfl, sqL_H ok1 hpa, sqL_H ok1 hpb, fun L hLn => ?_⟩
          by_cases hb : (xs.zipWith (fun x y => D.tup [x, y]) ys).length ≤ big
          case neg => rw [if_neg hb] at h1; exact h1.elim
          rw [if_pos hb] at h1
          have hl : (xs.zipWith (fun x y => D.tup [x, y]) ys).length = min us.length ws.length := by rw [List.length_zipWith, ra.length, rb.length]
          generalize hds : xs.zipWith (fun x y => D.tup [x, y]) ys = ds at h1 hb hl
          have hat : ∀ i v u, us[i]? = some v → ws[i]? = some u → ∃ d e, ds[i]? = some (D.tup [d, e]) ∧ Rep X.K g W1 d v ∧ Rep X.K g W1 e u := fun i v u h1 h2 => by
            have i1 : i < xs.length := by rw [← ra.length]; exact (List.getElem?_eq_some_iff.mp h1).1
            have i2 : i < ys.length := by rw [← rb.length]; exact (List.getElem?_eq_some_iff.mp h2).1
            obtain ⟨v', f1, r1⟩ := ra.get (List.getElem?_eq_getElem i1)
            obtain ⟨u', f2, r2⟩ := rb.get (List.getElem?_eq_getElem i2)
            rw [h1] at f1; cases f1
            rw [h2] at f2; cases f2
            exact ⟨xs[i], ys[i], by rw [← hds, List.getElem?_zipWith, List.getElem?_eq_getElem i1, List.getElem?_eq_getElem i2], r1, r2⟩
          have hL0 : Fr H L := x1.there L (.of hLn)
          have nB : L ∉ W1.B := fun z => by
            obtain ⟨o, e⟩ := ok1.boxAt z
            rw [hLn] at e; cases e
          have h2 := (Post.bnd h1).mono (k' := fun ys s2 W2 H2 => ∀ vs, H2 L = some (.lst vs) → RepL X.K g W2 ys vs → W2.F L = none → L ∉ W2.B → Q (.ref L) H2) fun ys s2 W2 H2 x2 ok2 h2 vs e1 e2 e3 e4 => Post.now h2 ok2 ys L vs rfl e1 e2 e3 e4 hL0
          have ext1 := en.ext x1
          refine ⟨fun i H2 => ∃ W2 s2 acc dacc, Ext W1 H1 W2 H2 ∧ Ok X.K g W2 s2 H2 ∧ H2 L = some (.lst acc) ∧ W2.F L = none ∧ L ∉ W2.B ∧ RepL X.K g W2 dacc acc ∧ acc.length ≤ i ∧
            Post X.K g W1 H1 (lcLoop (lcF cs lv r own (.tp is) (.so q) e) (ds.drop i) s2) (fun y s' W' H' => ∀ vs, H' L = some (.lst vs) → RepL X.K g W' (dacc ++ y) vs → W'.F L = none → L ∉ W'.B → Q (.ref L) H') (fun c dd H' => Wx c dd σ H'),
            ⟨W1, s2, [], [], .alloc0 W1 hLn, ok1.alloc0 hLn, upd_same, ok1.unF hLn, nB, rfl, Nat.le_refl _, h2⟩, fun i H2 ⟨W2, s2, acc, dacc, x2, ok2, _⟩ => ⟨sqL_H ok2 (sqL_mono x2.le.1 hpa), sqL_H ok2 (sqL_mono x2.le.1 hpb)⟩, ?_, ?_⟩
          · rintro H2 ⟨W2, s2, acc, dacc, x2, ok2, a1, a2, a3, a4, a5, hP⟩
            rw [← hl, List.drop_length] at hP
            exact hP W2 H2 x2 ok2 acc a1 (by rw [List.append_nil]; exact a4) a2 a3
          · rintro i xv yv H2 gx gy ⟨W2, s3, acc, dacc, x2, ok2, a1, a2, a3, a4, a5, hP⟩ T hT
            obtain ⟨d1, d2, hdi, rd1, rd2⟩ := hat i xv yv gx gy
            have hi : i < ds.length := (List.getElem?_eq_some_iff.mp hdi).1
            have x3 := Ext.alloc (W := W2) (o := .tup [xv, yv]) (ok2.unF hT) hT
            have ok3 := ok2.alloc (o := .tup [xv, yv]) hT
            obtain ⟨b1, b2, b3⟩ := own_ext x3 a1 a2 a3
            rw [List.drop_eq_getElem_cons hi] at hP
            have hP : Post X.K g W1 H1 (bnd (lcF cs lv r own (.tp is) (.so q) e ds[i] s3) fun o s4 => bnd (lcLoop (lcF cs lv r own (.tp is) (.so q) e) (ds.drop (i + 1)) s4) fun y s5 => .ok (addO o y) s5) (fun y s' W' H' => ∀ vs, H' L = some (.lst vs) → RepL X.K g W' (dacc ++ y) vs → W'.F L = none → L ∉ W'.B → Q (.ref L) H') (fun c dd H' => Wx c dd σ H') := hP
            have hdd : ds[i] = .tup [d1, d2] := by rw [List.getElem?_eq_getElem hi] at hdi; exact Option.some.inj hdi
            rw [hdd] at hP
            unfold lcF at hP
            split at hP
            case h_2 => exact hP.elim
            rename_i r1 hr1
            have en3 := ext1.ext (x2.trans x3)
            refine ⟨_, s3, wipeR r own, [d1, d2], r1, ok3, en3.wipe own, .cons ((rd1.mono x2.le).mono x3.le) (.one ((rd2.mono x2.le).mono x3.le)), hr1, fun σ' en' o => ⟨wipe_only o hsl, _, s3, r1, ok3, en', ?_⟩⟩
            cases hC : evC cs r1 (.so q) lv s3 with
            | bad => rw [hC] at hP; exact hP.elim
            | ex x s4 =>
              exfalso
              have hC : bnd (noex (evE cs r1 q lv s3)) (fun x s1 => opt (chkB x) s1) = .ex x s4 := hC
              cases h4 : evE cs r1 q lv s3 with
              | ok y s4 =>
                rw [h4] at hC
                have hC : opt (chkB y) s4 = _ := hC
                cases h5 : chkB y <;> rw [h5] at hC <;> cases hC
              | ex z s4 => rw [h4] at hC; cases hC
              | bad => rw [h4] at hC; cases hC
            | ok t s4 =>
              rw [hC, bnd_ok] at hP
              intro W4 H4 x4 ok4
              obtain ⟨c1, c2, c3⟩ := own_ext x4 b1 b2 b3
              have x14 := x2.trans (x3.trans x4)
              cases t with
              | false =>
                rw [if_neg Bool.false_ne_true, bnd_ok] at hP
                rw [if_neg Bool.false_ne_true]
                exact ⟨W4, s4, acc, dacc, x14, ok4, c1, c2, c3, a4.mono (x3.le.trans x4.le), Nat.le_succ_of_le a5, (Post.bnd hP).mono fun y s5 W5 H5 x5 ok5 h5 => Post.now h5 ok5⟩
              | true =>
                rw [if_pos rfl] at hP
                rw [if_pos rfl]
                refine ⟨W4, s4, r1, ok4, en'.ext x4, ?_⟩
                cases hE : evE cs r1 e lv s4 with
                | bad => rw [hE] at hP; exact hP.elim
                | ex x s5 => rw [hE] at hP; exact hP.elim
                | ok y s5 =>
                  rw [hE] at hP
                  have hP : Post X.K g W1 H1 (bnd (lcLoop (lcF cs lv r own (.tp is) (.so q) e) (ds.drop (i + 1)) s5) fun z s4 => .ok (y :: z) s4) (fun y s' W' H' => ∀ vs, H' L = some (.lst vs) → RepL X.K g W' (dacc ++ y) vs → W'.F L = none → L ∉ W'.B → Q (.ref L) H') (fun c dd H' => Wx c dd σ H') := hP
                  intro W5 H5 x5 ok5 v rv
                  obtain ⟨f1, f2, f3⟩ := own_ext x5 c1 c2 c3
                  refine ⟨acc, f1, ?_, W5, s5, acc ++ [v], dacc ++ [y], (x14.trans x5).upd (.of hLn), ok5.upd f1 f2 f3, upd_same, f2, f3, (a4.mono (x3.le.trans (x4.le.trans x5.le))).app (.one rv), by rw [List.length_append, List.length_singleton]; omega, ?_⟩
                  · have z := small hb
                    omega
                  · exact (Post.bnd hP).mono fun z s6 W6 H6 x6 ok6 h6 vs e1 e2 => Post.now h6 ok6 vs e1 (by rw [List.append_assoc] at e2; exact e2)
        · cases hz
end
end Tw
end
section
/-! Part Q: the def that words an error, called while the error is in hand. -/
namespace Tw
open PySem PySem.Spec PyProof.Rows L2 HotX L2H
def hotLc (t : Tn) (c : Cc) : List Nat → Tg → It → Eo → E → Expr → Bool
  | own, .tp is, .zip (.spl (.var i) z) (.var j), .so (.var q), .var e, .ListComp (.Name ye _) [⟨.Tuple es _ _, .Call (.Name x _) [.Call (.Attribute (.Name yi _) at_ apos) [.Constant (.str z') _ _] [] pos, .Name yj _] [] _, [.Name yq _], n⟩] sc _ =>
      decide (n = 0) && blkC c.N c.sc sc (own.filterMap fun i => c.N[i]?.map fun x => (x, i)) && own.all (fun i => decide (i < c.N.length)) && is.all (fun i => decide (i ∈ own)) && decide (is.length = 2) && bltB t c.sc x "zip" &&
        decide (at_ = ("split" : Str)) && decide (z = z') && (apos.endLine == pos.line) && slotB c i yi && slotB c j yj && locsB ⟨c.N, relS sc c.sc, some sc, false⟩ is es && slotB ⟨c.N, relS sc c.sc, some sc, false⟩ q yq && slotB ⟨c.N, relS sc c.sc, some sc, false⟩ e ye
  | _, _, _, _, _, _ => false
mutual
def hotE (t : Tn) (c : Cc) : E → Expr → Bool
  | .var i, ex => match ex with
    | .Name x _ => slotB c i x
    | _ => false
  | .str x, ex => match ex with
    | .Constant (.str y) _ _ => decide (x = y)
    | _ => false
  | .lst es, ex => match ex with
    | .List xs _ => hotEs t c es xs
    | _ => false
  | .bin op a b, ex => match ex with
    | .BinOp l o r _ => decide (boOf op = o) && hotE t c a l && hotE t c b r
    | _ => false
  | .isx a k, ex => match ex with
    | .Call (.Name x _) [e, .Name y _] [] _ => bltB t c.sc x "isinstance" && noStar e && decide (t.excs[k]? = some y) && glB c.sc y && nmOk y && hotE t c a e
    | _ => false
  | .isv a, ex => match ex with
    | .Call (.Name x _) [e, .Name y _] [] _ => bltB t c.sc x "isinstance" && noStar e && bltB t c.sc y "ValueError" && hotE t c a e
    | _ => false
  | .jn z a, ex => match ex with
    | .Call (.Attribute (.Constant (.str y) _ _) at_ apos) [e] [] pos => decide (at_ = ("join" : Str)) && decide (z = y) && (apos.endLine == pos.line) && noStar e && hotE t c a e
    | _ => false
  | .lc own tg it q e, ex => hotLc t c own tg it q e ex
  | _, _ => false
def hotEs (t : Tn) (c : Cc) : Es → List Expr → Bool
  | .nil, xs => match xs with
    | [] => true
    | _ => false
  | .cons a es, xs => match xs with
    | x :: xs => noStar x && hotE t c a x && hotEs t c es xs
    | _ => false
end
def hotSs (t : Tn) (c : Cc) : Ss → List Stmt → Bool
  | .cons (.set i e) as, .Assign [.Name x _] v _ :: sts => nameB c i x && noComp v && hotE t c e v && hotSs t c as sts
  | .cons (.ret e) .nil, [.Return (some x) _] => hotE t c e x
  | _, _ => false
section
variable {X : Cx} {c : Cc} {t : Tn} {g : Ga} {cs : Cs} {Wx : WX} {lv : Nat} {p : Addr × Obj} {W0 : Wd} {H0 : Hp}
theorem XB.blk (xo : XB X c) (sc : Scope) (s : Shared) (H : Hp) (C : Addr) (cls : List (Str × Addr)) (fp : List Addr) : XB (X.blk s H sc (compEnvC sc cls C X.env) fp) ⟨c.N, relS sc c.sc, some sc, false⟩ where
  N := xo.N
  nd := xo.nd
  sc := by
    show relabel sc X.env = _
    rw [← xo.sc]; rfl
  fn := fun x h => by
    have h' : decide (sc.names.lookup x = some .cell) = true := h
    show (sc.names.lookup x == some .cell) = true
    rw [of_decide_eq_true h']; rfl
theorem spl_lst {r : Rho} {a : E} {z : Str} {s s1 : S} {d : D} (h : evE cs r (.spl a z) lv s = .ok d s1) : ∃ xs, d = .lst xs := by
  have h : bnd (evE cs r a lv s) (fun y s1 => opt (splD y z) s1) = .ok d s1 := h
  cases ha : evE cs r a lv s with
  | bad => rw [ha] at h; cases h
  | ex x s2 => rw [ha] at h; cases h
  | ok y s2 =>
    rw [ha, bnd_ok] at h
    cases hs : splD y z with
    | none => rw [hs] at h; cases h
    | some u =>
      rw [hs] at h
      cases h
      unfold splD at hs
      split at hs
      · split at hs
        · cases hs; exact ⟨_, rfl⟩
        · cases hs
      · cases hs
theorem hotLc_ok (go : GOk X.prog X.w X.K X.mg X.base g t cs lv) (xh : XH g X c p) {own : List Nat} {tg : Tg} {it : It} {q : Eo} {e : E} {ex : Expr} (h : hotLc t c own tg it q e ex = true) : PE X ex (rdE X.K g cs lv Wx (.lc own tg it q e)) := by
  unfold hotLc at h
  split at h
  case h_2 => cases h
  rename_i is i z j q e ye p1 es k tpos x p2 yi p3 at_ apos z' k2 p4 pos yj p5 cpos yq p6 n sc lpos
  obtain ⟨h, h14⟩ := ba h
  obtain ⟨h, h13⟩ := ba h
  obtain ⟨h, h12⟩ := ba h
  obtain ⟨h, h11⟩ := ba h
  obtain ⟨h, h10⟩ := ba h
  obtain ⟨h, h9⟩ := ba h
  obtain ⟨h, h8⟩ := ba h
  obtain ⟨h, h7⟩ := ba h
  obtain ⟨h, h6⟩ := ba h
  obtain ⟨h, h5⟩ := ba h
  obtain ⟨h, h4⟩ := ba h
  obtain ⟨h, h3⟩ := ba h
  obtain ⟨h1, h2⟩ := ba h
  have e1 := of_decide_eq_true h1
  have e7 := of_decide_eq_true h7
  have e8 := of_decide_eq_true h8
  have e5 := of_decide_eq_true h5
  subst e1 e7 e8
  obtain ⟨rfl, hgz, hmz⟩ := bltB_ok go xh.toXB h6
  have ho : ∀ i ∈ own, i < c.N.length := fun i hi => of_decide_eq_true (List.all_eq_true.mp h3 i hi)
  have hsl : ∀ j ∈ is, j ∈ own := fun i hi => of_decide_eq_true (List.all_eq_true.mp h4 i hi)
  have nd : X.N.Nodup := by rw [xh.N]; exact xh.nd
  have ok : BlkOk X.N X.env.scope sc (own.filterMap fun i => c.N[i]?.map fun x => (x, i)) := by rw [xh.N, xh.sc]; exact blkOk_by h2
  refine PE.of (pe_lzH (tg := rdGs X.K g is) (tt := rdC X.K g cs lv (.so (.var q))) (te := rdE X.K g cs lv WF (.var e)) ⟨p, xh.hot, xh.pin⟩ nd ok hgz hmz (sn_cons (cs := cs) (lv := lv) (Wx := Wx) (g := g) rfl (sn_spl (sn_var xh.toXB h10) h9) (sn_cons rfl (sn_var xh.toXB h11) sn_nil)) (star_no rfl) (star_all (xs := [_]) rfl)
    (fun s H C cl fp => by
      have z := sn_gs (g := g) (xh.toXB.blk sc s H C cl fp) h12
      rw [e5] at z
      exact z)
    (fun s H C cl fp => sn_c1 (g := g) (cs := cs) (lv := lv) (pt_from rfl (sn_var (xh.toXB.blk sc s H C cl fp) h13)))
    (fun s H C cl fp => sn_var (g := g) (cs := cs) (lv := lv) (Wx := WF) (xh.toXB.blk sc s H C cl fp) h14)) fun σ H Q h => ?_
  rw [own_map ho]
  exact lz_read hsl (fun r s xs ys s1 s2 h1 _ => by
    obtain ⟨us, e⟩ := spl_lst h1
    cases e) h
mutual
theorem hotE_ok (go : GOk X.prog X.w X.K X.mg X.base g t cs lv) (xh : XH g X c p) : ∀ (e : E) (ex : Expr), hotE t c e ex = true → PE X ex (rdE X.K g cs lv Wx e)
  | .var i, ex, h => by
    unfold hotE at h
    split at h <;> first | contradiction | skip
    exact sn_var xh.toXB h
  | .str x, ex, h => by
    unfold hotE at h
    split at h <;> first | contradiction | skip
    have e := of_decide_eq_true h
    subst e
    exact sn_c pe_str (fun _ _ => rfl) fun _ => rfl
  | .lst es, ex, h => by
    unfold hotE at h
    split at h <;> first | contradiction | skip
    exact sn_lst (hotEs_ok go xh es _ h)
  | .bin op a b, ex, h => by
    unfold hotE at h
    split at h <;> first | contradiction | skip
    obtain ⟨h, h3⟩ := ba h
    obtain ⟨h1, h2⟩ := ba h
    have e := of_decide_eq_true h1
    subst e
    exact sn_bin (hotE_ok go xh a _ h2) (hotE_ok go xh b _ h3)
  | .isx a k, ex, h => by
    unfold hotE at h
    split at h <;> first | contradiction | skip
    obtain ⟨h, h6⟩ := ba h
    obtain ⟨h, h5⟩ := ba h
    obtain ⟨h, h4⟩ := ba h
    obtain ⟨h, h3⟩ := ba h
    obtain ⟨h1, h2⟩ := ba h
    exact sn_isx go xh h1 h2 (of_decide_eq_true h3) h4 h5 (hotE_ok go xh a _ h6)
  | .isv a, ex, h => by
    unfold hotE at h
    split at h <;> first | contradiction | skip
    obtain ⟨h, h4⟩ := ba h
    obtain ⟨h, h3⟩ := ba h
    obtain ⟨h1, h2⟩ := ba h
    exact sn_isv go xh h1 h2 h3 (hotE_ok go xh a _ h4)
  | .jn z a, ex, h => by
    unfold hotE at h
    split at h <;> first | contradiction | skip
    obtain ⟨h, h5⟩ := ba h
    obtain ⟨h, h4⟩ := ba h
    obtain ⟨h, h3⟩ := ba h
    obtain ⟨h1, h2⟩ := ba h
    have e1 := of_decide_eq_true h1
    have e2 := of_decide_eq_true h2
    subst e1 e2
    exact sn_jn h4 (hotE_ok go xh a _ h5) h3
  | .lc own tg it q e, ex, h => by
    unfold hotE at h
    exact hotLc_ok go xh h
  | .non, ex, h => by unfold hotE at h; cases h
  | .bl _, ex, h => by unfold hotE at h; cases h
  | .int _, ex, h => by unfold hotE at h; cases h
  | .gint _ _, ex, h => by unfold hotE at h; cases h
  | .gfn _, ex, h => by unfold hotE at h; cases h
  | .neg _, ex, h => by unfold hotE at h; cases h
  | .cmp _ _ _, ex, h => by unfold hotE at h; cases h
  | .ch2 _ _ _ _ _, ex, h => by unfold hotE at h; cases h
  | .ch3 _ _ _ _ _ _ _, ex, h => by unfold hotE at h; cases h
  | .nt _, ex, h => by unfold hotE at h; cases h
  | .an _ _, ex, h => by unfold hotE at h; cases h
  | .or _ _, ex, h => by unfold hotE at h; cases h
  | .ite _ _ _, ex, h => by unfold hotE at h; cases h
  | .tup _, ex, h => by unfold hotE at h; cases h
  | .idx _ _, ex, h => by unfold hotE at h; cases h
  | .oidx _ _, ex, h => by unfold hotE at h; cases h
  | .sl _ _ _, ex, h => by unfold hotE at h; cases h
  | .oln _, ex, h => by unfold hotE at h; cases h
  | .rev _, ex, h => by unfold hotE at h; cases h
  | .cal _ _, ex, h => by unfold hotE at h; cases h
  | .clv _ _, ex, h => by unfold hotE at h; cases h
  | .isi _ _, ex, h => by unfold hotE at h; cases h
  | .set _, ex, h => by unfold hotE at h; cases h
  | .bi _ _, ex, h => by unfold hotE at h; cases h
  | .spl _ _, ex, h => by unfold hotE at h; cases h
  | .trl _, ex, h => by unfold hotE at h; cases h
theorem hotEs_ok (go : GOk X.prog X.w X.K X.mg X.base g t cs lv) (xh : XH g X c p) : ∀ (es : Es) (xs : List Expr), hotEs t c es xs = true → PA X xs (rdEs X.K g cs lv Wx es)
  | .nil, xs, h => by
    unfold hotEs at h
    split at h <;> first | contradiction | skip
    exact sn_nil
  | .cons e es, xs, h => by
    unfold hotEs at h
    split at h <;> first | contradiction | skip
    obtain ⟨h, h3⟩ := ba h
    obtain ⟨h1, h2⟩ := ba h
    exact sn_cons h1 (hotE_ok go xh e _ h2) (hotEs_ok go xh es _ h3)
end
theorem hotSs_ok (go : GOk X.prog X.w X.K X.mg X.base g t cs lv) (xh : XH g X c p) : ∀ (as : Ss) (sts : List Stmt), hotSs t c as sts = true → PSs X sts (rdSs X.K g cs lv Wx W0 H0 as)
  | .nil, sts, h => by unfold hotSs at h; cases h
  | .cons a as, sts, h => by
    unfold hotSs at h
    split at h
    · rename_i e2
      obtain ⟨h, h4⟩ := ba h
      obtain ⟨h, h3⟩ := ba h
      obtain ⟨h1, h2⟩ := ba h
      obtain ⟨n1, n2⟩ := nameB_ok h1
      cases e2
      exact PSs.of (pss_cons (PS.of (sn_asg xh.toXB n1 n2 h2 (hotE_ok go xh _ _ h3)) fun D σ H q => rd_set q) (hotSs_ok go xh _ _ h4)) fun D σ H q => rdSs_cons q
    · rename_i e2
      cases e2
      exact PSs.of (pss_cons (sn_ret (hotE_ok go xh _ _ h)) (PSs.of pss_nil fun D σ H q => rdSs_nil q)) fun D σ H q => rdSs_cons q
    · cases h
end
section
variable {K : PySem.W.Frag} {g : Ga}
theorem start_env {W : Wd} {H : Hp} {N : List Str} {d : Df} {ds : List D} {vs : List V} (hn : d.n = N.length) (hp : d.p = ds.length) (rv : RepL K g W ds vs) : EnvR K g W H (startR d ds) (L2.start N vs) := by
  have hl := rv.length
  refine ⟨by unfold startR L2.start; simp [hn, hp, hl], fun i sl h => ?_⟩
  unfold startR at h
  by_cases hi : i < ds.length
  · rw [List.getElem?_append_left (by simpa using hi), List.getElem?_map, List.getElem?_eq_getElem hi] at h
    cases h
    obtain ⟨v, e1, e2⟩ := rv.get (List.getElem?_eq_getElem hi)
    refine ⟨v, ?_, e2⟩
    unfold L2.start
    rw [List.getElem?_append_left (by simp [hl, hi]), List.getElem?_map, e1]; rfl
  · rw [List.getElem?_append_right (by simpa using Nat.le_of_not_lt hi)] at h
    have := List.mem_of_getElem? h
    rw [List.mem_replicate] at this
    rw [this.2]; trivial
theorem start_own {H0 : Hp} {d : Df} {ds : List D} {σ : L2.St} : OwnS H0 (startR d ds) σ := by
  have no : ∀ (i : Nat) es, (startR d ds)[i]? ≠ some (.own es) := fun i es h => by
    have := List.mem_of_getElem? h
    unfold startR at this
    rcases List.mem_append.mp this with z | z
    · obtain ⟨x, _, e⟩ := List.mem_map.mp z
      cases e
    · have := (List.mem_replicate.mp z).2
      cases this
  exact ⟨fun i es a h _ => (no i es h).elim, fun i j es fs a h _ _ _ => (no i es h).elim⟩
end
/-- what one knows of the errors' classes -/
structure XcT (K : PySem.W.Frag) (g : Ga) : Prop where
  cl : ∀ (c : Nat) C, g.xa[c]? = some C → XcC K C ∧ PySem.W.kitOne K (.ref C) (.type "ValueError") = some true
  one : ∀ (c k : Nat) C D, g.xa[c]? = some C → g.xa[k]? = some D → PySem.W.kitOne K (.ref C) (.ref D) = some (decide (c = k))
/-- what the def that words an error promises -/
def spKin (g : Ga) (p : Addr × Obj) : Sp := fun vs H Q _ => vs = [.ref p.1] ∧ LamX.Tabs g.T H ∧ ∃ (c : Nat) (w : Str) (C : Addr) (d : Option Addr), kinW c = some w ∧ g.xa[c]? = some C ∧ Zc (.ref C) d p.2 ∧ (∃ us, p.2.data = .fields us) ∧ (∀ dd, d = some dd → ∃ fs, H dd = some (.xd fs)) ∧
  ∀ H', Kept H H' → LamX.Tabs g.T H' → Q (.str w) H'
def kinT (t : Tn) : Tn := ⟨[], [], t.excs, t.blts, false, [], false⟩
def cs0 : Cs := fun _ _ _ _ => .bad
theorem kin_ok {P : Program} {w : World} {K : PySem.W.Frag} {mg : Str → Option Value} {base : Heap} {CX : CXT} {g : Ga} {t : Tn} {fd : Fd} {d : Df} {f : Addr} {dat : FuncData} {k : Nat} (F : FunD K fd.x fd.x fd.args fd.body fd.scope [] [] f dat) (S : FnScope fd.N fd.ps fd.scope) (hps : fd.ps.length = 1) (hn : d.n = fd.N.length) (hp : d.p = 1)
    (hc : hotSs (kinT t) ⟨fd.N, fd.scope, none, false⟩ d.body fd.body = true) (hk : ∀ c w, kinW c = some w → exSs cs0 d.body 0 (startR d [.xc c]) [] = .ok (.rt (.str w)) [])
    (hb : ∀ x, x ∈ t.blts → mg x = none)
    (hx : ∀ (j : Nat) (x : Str), t.excs[j]? = some x → ∃ C, g.xa[j]? = some C ∧ mg x = some (.ref C) ∧ PySem.W.keepIn K (.ref C) = true ∧ (j ≠ 11 → ∃ bmB B n1 n2, ExcBaseFacts B n1 n2 bmB ∧ PySem.W.excIn K C bmB n1 = true ∧
      PySem.W.subIn K (.ref C) (.type "BaseException") = some true ∧ PySem.W.typeIn K (.ref C) = some (.type "type"))) (xt : XcT K g) :
    FnP P w K mg base CX (k + 1) f dat fd.ps (spKin g) := by
  refine fn_ofP F S (fun p vs H Q E h => ?_) fun cdv A outer s H vs Q E p hot hr h => ?_
  · rw [h.1, hps]; rfl
  · obtain ⟨e, tab, c, wd, C, dd, hw, hC, hz, hf, hd, hq⟩ := h
    subst e
    let g' : Ga := ⟨[], g.xa, g.T, some (p.1, c, dd)⟩
    let X := cxH CX P w K mg base fd.N fd.x fd.scope f cdv A outer s H E p
    have go : GOk X.prog X.w X.K X.mg X.base g' (kinT t) cs0 0 := ⟨fun m hm i x e => (by simp [kinT] at e), hb, fun x i e => (by simp [kinT] at e), hx, fun e => (by cases e), rfl, fun e => (by cases e)⟩
    have xh : XH g' X ⟨fd.N, fd.scope, none, false⟩ p := ⟨⟨rfl, S.nd, rfl, fun _ _ => rfl⟩, hot, List.mem_singleton.mpr rfl, c, dd, C, rfl, hC, hz, hf, (xt.cl c C hC).1, fun k D hD => xt.one c k C D hC hD, (xt.cl c C hC).2⟩
    let W : Wd := ⟨fun a => if dd = some a then H a else none, []⟩
    have ok : Ok K g' W [] H := by
      refine ⟨fun a o e => ?_, rfl, List.nodup_nil, (fun a h => nomatch h), (fun k a b h => by
        have h : ([] : List Addr)[k]? = some a := h
        simp at h), tab, fun a ps e => ?_⟩
      · have e : (if dd = some a then H a else none) = some o := e
        split at e
        · exact e
        · cases e
      · have e : (if dd = some a then H a else none) = some (.tbl ps) := e
        split at e
        · rename_i z
          obtain ⟨fs, q⟩ := hd a z
          rw [q] at e; cases e
        · cases e
    have rv : RepL K g' W [.xc c] [.ref p.1] := .one ⟨p.1, dd, rfl, rfl, fun b e => by
      obtain ⟨fs, q⟩ := hd b e
      exact ⟨fs, by show (if dd = some b then H b else none) = _; rw [if_pos e]; exact q⟩⟩
    refine ⟨_, hotSs_ok (X := X) (Wx := fun _ _ _ _ => True) (W0 := W) (H0 := H) go xh d.body fd.body hc, W, [], startR d [.xc c], ⟨.refl W H, ok, start_env hn (by rw [hp]; rfl) rv, start_own⟩, ?_⟩
    show PostS K g' _ W H W (exSs cs0 d.body 0 (startR d [.xc c]) []) _
    rw [hk c wd hw]
    intro W' H' v l x ok' rv'
    have e : v = .str wd := rv'
    subst e
    exact hq H' (Kept.of_ext x rfl) ok'.tab
end Tw
end
section
/-! Part T: the def that tries a lambda. -/
namespace Tw
open PySem PySem.Spec PyProof.Rows L2 HotX L2H
/-- the written body -/
def tryB (c : Cc) : List Stmt → Bool
  | [.Assign [.Name f1 _] (.Constant .none _ _) _,
     .Try [.Assign [.Name f2 _] (.Tuple [.Constant (.str w) _ _, .Call (.Name a _) [] [] _] _ _) _]
       [.ExceptHandler (some (.Name x1 _)) (some n1) [.Assign [.Name f3 _] (.Tuple [.Call (.Name k1 _) [.Name e1 _] [] _, .Attribute (.Name e2 _) l _] _ _) _] _,
        .ExceptHandler (some (.Name x2 _)) (some n2) [.Assign [.Name f4 _] (.Call (.Name k2 _) [.Name e3 _] [] _) _] _] [] [] _,
     .Return (some (.Name f5 _)) _] =>
    nameB c 1 f1 && nameB c 1 f2 && nameB c 1 f3 && nameB c 1 f4 && slotB c 1 f5 && decide (w = ("told" : Str)) && decide (a = ("call_so" : Str)) && decide (x1 = ("TooMany" : Str)) && decide (x2 = ("ApartError" : Str)) && decide (n1 = n2) && decide (c.N[2]? = some n1) && decide (c.sc.names.lookup n1 = some .local) &&
      decide (k1 = ("_law_kin" : Str)) && decide (k2 = ("_law_kin" : Str)) && slotB c 2 e1 && slotB c 2 e2 && slotB c 2 e3 && decide (l = ("limit" : Str)) && glB c.sc ("TooMany" : Str) && glB c.sc ("ApartError" : Str) && glB c.sc ("_law_kin" : Str)
  | _ => false
/-- the words of the error in hand, called for -/
def tKin (g : Ga) (a : Addr) (cls : Value) (d : Option Addr) : TE := fun σ H Q => σ[2]? = some (some (.ref a)) ∧ LamX.Tabs g.T H ∧ ∃ (c : Nat) (w : Str) (C : Addr), kinW c = some w ∧ g.xa[c]? = some C ∧ cls = .ref C ∧ (∀ dd, d = some dd → ∃ fs, H dd = some (.xd fs)) ∧
  ∀ H', Kept H H' → LamX.Tabs g.T H' → Q (.str w) H'
section
variable {X : Cx} {c : Cc} {g : Ga} {k : Nat} {kf C11 CA : Addr} {kdat : FuncData}
theorem hot_zn {A : Around} {a : Addr} {oe : Obj} {cls : Value} {d : Option Addr} (hz : L2N.Zn cls d oe) (hf : ∃ vs, oe.data = .fields vs) (hA : A.handled = some (.ref a)) : Hot1 A (a, oe) := by
  obtain ⟨vs, e⟩ := hf
  exact ⟨hA, vs, e, hz.2.2 vs e⟩
theorem pe_kin (F : FnP X.prog X.w X.K X.mg X.base C8.CX0 k kf kdat ["e"] (spKin g)) (hr : RoomH k X.A) (hm : X.mg ("_law_kin" : Str) = some (.ref kf)) (hk : PySem.W.keepIn X.K (.ref kf) = true) (hb : Binds X.K kdat ["e"] []) (hg : Gl X ("_law_kin" : Str)) {a : Addr} {oe : Obj} {cls : Value} {d : Option Addr} {pn : List (Addr × Obj)}
    (hz : L2N.Zn cls d oe) (hf : ∃ vs, oe.data = .fields vs) {e : Str} {p1 p2 pos : Pos} (he : X.N[2]? = some e) (hv : Vis X.env.scope e) (h3 : (e == ("__debug__" : Str)) = false) (h4 : (e == ("__classdict__" : Str)) = false) :
    PE (X.suite a ((a, oe) :: pn)) (.Call (.Name ("_law_kin" : Str) p1) [.Name e p2] [] pos) (tKin g a cls d) := by
  refine PE.of (pe_callP (X := X.suite a ((a, oe) :: pn)) (E := fun _ => C8.E0) (p := (a, oe)) F ⟨hr.dp, hr.un⟩ (hot_zn hz hf rfl) (List.mem_cons_self) hg hm hk hb (fun σ pins H1 s1 e s' I q => q.elim) (pa_cons (pe_var (X := X.suite a ((a, oe) :: pn)) (i := 2) he hv h3 h4) pa_nil rfl) (by decide) rfl rfl) fun σ H Q h => ?_
  obtain ⟨h1, tab, c, w, C, hw, hC, ec, hd, q⟩ := h
  exact ⟨.ref a, h1, rfl, tab, c, w, C, d, hw, hC, ⟨by rw [← ec]; exact hz.1, hz.2.1⟩, hf, hd, q⟩
theorem try_gives {Ng : List Str} {sg : Scope} {g0 : Addr} {cdg : Value} {bg : List Stmt} {q : Str} (S : FnScope Ng ["call_so"] sg) (hN3 : Ng.length = 3) (hb : tryB ⟨Ng, sg, none, false⟩ bg = true)
    (hmT : X.mg ("TooMany" : Str) = some (.ref C11)) (hmA : X.mg ("ApartError" : Str) = some (.ref CA)) (hmK : X.mg ("_law_kin" : Str) = some (.ref kf)) (hk : PySem.W.keepIn X.K (.ref kf) = true) (hbk : Binds X.K kdat ["e"] [])
    (F : FnP X.prog X.w X.K X.mg X.base C8.CX0 (k + 1) kf kdat ["e"] (spKin g)) (xf : XfC X.K C11) (hno : PySem.W.findIn X.K (.ref C11) "limit" = some none) (h11 : g.xa[11]? = some C11)
    (hex : ∀ (c : Nat) C, g.xa[c]? = some C → PySem.W.exmOne X.K (.ref C) (.ref C11) = some (decide (c = 11)) ∧ PySem.W.exmOne X.K (.ref C) (.ref CA) = some true) :
    GivesN X k Ng ("_law_try" : Str) sg g0 cdg bg ("call_so" : Str) q (TTry X.K g) := by
  intro f c' s H Q tl hr hact hc' ⟨tab, htl⟩
  unfold tryB at hb
  split at hb
  case h_2 => cases hb
  rename_i f1 p1 j1 p2 p3 f2 p4 w j2 p5 a p6 p7 j3 p8 p9 x1 p10 n1 f3 p11 k1 p12 e1 p13 p14 e2 p15 l p16 j4 p17 p18 p19 x2 p20 n2 f4 p21 k2 p22 e3 p23 p24 p25 p26 p27 f5 p28 p29
  simp only [Bool.and_eq_true] at hb
  obtain ⟨⟨⟨⟨⟨⟨⟨⟨⟨⟨⟨⟨⟨⟨⟨⟨⟨⟨⟨⟨b1, b2⟩, b3⟩, b4⟩, b5⟩, b6⟩, b7⟩, b8⟩, b9⟩, b10⟩, b11⟩, b12⟩, b13⟩, b14⟩, b15⟩, b16⟩, b17⟩, b18⟩, b19⟩, b20⟩, b21⟩ := hb
  have r6 := of_decide_eq_true b6
  have r7 := of_decide_eq_true b7
  have r8 := of_decide_eq_true b8
  have r9 := of_decide_eq_true b9
  have r10 := of_decide_eq_true b10
  have r11 := of_decide_eq_true b11
  have r12 := of_decide_eq_true b12
  have r13 := of_decide_eq_true b13
  have r14 := of_decide_eq_true b14
  have r18 := of_decide_eq_true b18
  subst r6 r7 r8 r9 r10 r13 r14 r18
  let XX := cxOf C8.CX0 X.prog X.w X.K X.mg X.base Ng ("_law_try" : Str) sg g0 cdg X.A X.stack s H C8.E0
  have xb : XB XX.nox ⟨Ng, sg, none, false⟩ := ⟨rfl, S.nd, rfl, fun _ _ => rfl⟩
  have gT : Gl XX.nox ("TooMany" : Str) := glB_ok xb b19
  have gA : Gl XX.nox ("ApartError" : Str) := glB_ok xb b20
  have gK : Gl XX.nox ("_law_kin" : Str) := glB_ok xb b21
  have asg : ∀ {Y : Cx} {x : Str} {p pos : Pos} {v : Expr} {te : TE}, XB Y ⟨Ng, sg, none, false⟩ → nameB ⟨Ng, sg, none, false⟩ 1 x = true → noComp v = true → PE Y v te → PS Y (.Assign [.Name x p] v pos) (tAsg te (gName 1)) := fun {Y x p pos v te} yb hn hv he =>
    sn_asg yb (nameB_ok hn).1 (nameB_ok hn).2 hv he
  have one : ∀ {Y : Cx} {st : Stmt} {t : TS}, PS Y st t → PSs Y [st] t := fun {Y st t} h => PSs.of (pss_cons h pss_nil) fun D σ H q => q
  obtain ⟨v1, v2, v3, v4⟩ := slotB_ok b15
  obtain ⟨u1, u2, u3, u4⟩ := slotB_ok b16
  obtain ⟨w1, w2', w3, w4⟩ := slotB_ok b17
  obtain ⟨y1, y2, y3, y4⟩ := slotB_ok b5
  have hRH : RoomH (k + 1) XX.nox.A := roomH_of hr
  let tb : WX → TS := fun W => tAsg (tTup (tCons (tC (.str ("told" : Str))) (tCons (fun σZ HZ Q => σZ[0]? = some (some (.ref f)) ∧ HZ c' = some (LamX.CodeO c' q) ∧ tl (fun cls d H' => W cls d σZ H') HZ Q) tNil))) (gName 1)
  let ts1 : Addr → Value → Option Addr → TS := fun a cls d => tAsg (tTup (tCons (tKin g a cls d) (tCons (tXf a cls d C11 ("limit" : Str) (tVar 2)) tNil))) (gName 1)
  let ts2 : Addr → Value → Option Addr → TS := fun a cls d => tAsg (tKin g a cls d) (gName 1)
  refine ⟨_, pss_cons (asg xb b1 rfl pe_non) (pss_cons (ps_try2 (X := XX.nox) (x1 := ("TooMany" : Str)) (x2 := ("ApartError" : Str)) (c1 := .ref C11) (c2 := .ref CA) (i := 2) (n := n1) (tb := tb) (ts1 := ts1) (ts2 := ts2) (Wout := WF) rfl rfl S.nd r11 r12
    ⟨gT, rfl, .inl hmT⟩ ⟨gA, rfl, .inl hmA⟩ takesN
    (fun W pn xe tk => one (asg (Y := XX.nox.tr pn xe) ⟨rfl, S.nd, rfl, fun _ _ => rfl⟩ b2 rfl (pe_tup (pa_cons pe_str (pa_cons (hact W pn xe _ _ tk) pa_nil rfl) rfl))))
    (fun a oe cls d pn hz hf => one (asg (Y := XX.nox.suite a ((a, oe) :: pn)) ⟨rfl, S.nd, rfl, fun _ _ => rfl⟩ b3 rfl (pe_tup (pa_cons (pe_kin (X := XX.nox) F hRH hmK hk hbk gK hz hf v1 v2 v3 v4) (pa_cons (pe_xf (X := XX.nox) xf hno ⟨hz.1, hz.2.1⟩ hf (pe_var (X := XX.nox.suite a ((a, oe) :: pn)) (i := 2) u1 u2 u3 u4)) pa_nil rfl) rfl))))
    (fun a oe cls d pn hz hf => one (asg (Y := XX.nox.suite a ((a, oe) :: pn)) ⟨rfl, S.nd, rfl, fun _ _ => rfl⟩ b4 rfl (pe_kin (X := XX.nox) F hRH hmK hk hbk gK hz hf w1 w2' w3 w4)))) (one (ps_ret (pe_var (X := XX.nox) (i := 1) y1 y2 y3 y4)))), ?_⟩
  have e0 : L2.start Ng [.ref f] = [some (.ref f), none, none] := by unfold L2.start; rw [hN3]; rfl
  rw [e0]
  show tb _ _ [some (.ref f), some .non, none] H
  refine ⟨rfl, hc', htl _ _ (fun cls dd H' ⟨tab', cc, lim, wd, hx, hw, hq⟩ => ?_) (fun v H' ⟨tab', hq⟩ => ?_)⟩
  · obtain ⟨C, hC, ec, hl⟩ := hx
    dsimp only at hC hl
    obtain ⟨x1, x2⟩ := hex cc C hC
    subst ec
    refine ⟨_, x1, fun hb a na => ?_, fun hb => ⟨true, x2, fun _ a na => ?_, fun z => by cases z⟩⟩
    · have h11' := of_decide_eq_true hb
      cases lim with
      | none => exact (hq.1 h11').elim
      | some i =>
        obtain ⟨ad, ed, hd⟩ := hl
        subst h11'
        rw [h11] at hC
        cases hC
        refine ⟨rfl, tab', 11, wd, C11, hw, h11, rfl, fun b e => ?_, fun H1 k1 t1 => ⟨.ref a, rfl, rfl, rfl, ad, _, .int i, ed, k1.keep _ _ hd (fun ps z => nomatch z), rfl, by show 2 ≤ sizeLine; decide, fun p hp => ?_⟩⟩
        · rw [ed] at e; cases e
          exact ⟨_, hd⟩
        · exact ⟨.ref p, rfl, hq.2 H1 p k1 t1 hp⟩
    · have n11 := of_decide_eq_false hb
      cases lim with
      | some i => exact (n11 hq.1).elim
      | none =>
        refine ⟨rfl, tab', cc, wd, C, hw, hC, rfl, fun b e => ?_, fun H1 k1 t1 => ⟨.str wd, rfl, hq.2 H1 k1 t1⟩⟩
        rw [hl] at e; cases e
  · exact ⟨by show 2 ≤ sizeLine; decide, fun p hp => ⟨.ref p, rfl, hq p hp⟩⟩
end
end Tw
end
section
/-! Part O: defs. -/
namespace Tw
open PySem PySem.Spec PyProof.Rows L2
def okSc (fd : Fd) : Bool := (fd.scope.kind == .function) && !fd.scope.isCoroutine && !fd.scope.isGenerator && decide fd.N.Nodup && decide (fd.N.take fd.ps.length = fd.ps) &&
  fd.ps.all (fun x => fd.scope.names.lookup x == some .local || fd.scope.names.lookup x == some .cell) && fd.scope.names.all (fun y => !(y.2 == .free))
def okD (t : Tn) (fd : Fd) (d : Df) : Bool := okSc fd && decide (d.n = fd.N.length) && decide (d.p = fd.ps.length) && chkSs t ⟨fd.N, fd.scope, none, decide (fd.x ∈ t.lams)⟩ d.body fd.body
theorem okSc_ok {fd : Fd} (h : okSc fd = true) : FnScope fd.N fd.ps fd.scope := by
  unfold okSc at h
  obtain ⟨h, h7⟩ := ba h
  obtain ⟨h, h6⟩ := ba h
  obtain ⟨h, h5⟩ := ba h
  obtain ⟨h, h4⟩ := ba h
  obtain ⟨h, h3⟩ := ba h
  obtain ⟨h1, h2⟩ := ba h
  refine ⟨eq_of_beq h1, by simpa using h2, by simpa using h3, of_decide_eq_true h4, of_decide_eq_true h5, fun x hx => ?_, fun y hy e => ?_⟩
  · rcases Bool.or_eq_true_iff.mp (List.all_eq_true.mp h6 x hx) with z | z
    · exact .inl (eq_of_beq z)
    · exact .inr (eq_of_beq z)
  · have z := List.all_eq_true.mp h7 y hy
    rw [e] at z
    exact absurd z (by decide)
section
variable {P : Program} {w : World} {K : PySem.W.Frag} {mg : Str → Option Value} {base : Heap} {g : Ga} {t : Tn}
/-- the name of a def's lambdas -/
def lamQ (x : Str) : Str := x ++ (".<locals>." : Str) ++ ("<lambda>" : Str)
/-- what one knows of the code object and the table of a def in which lambdas stand -/
def LamF (g : Ga) (mg : Str → Option Value) (base : Heap) (x : Str) (dat : FuncData) : Prop := ∃ co P, dat.code = .ref co ∧ LamX.TabB base mg co P ∧ (P, lamQ x) ∈ g.T ∧ ∀ p ∈ g.T, p.1 = P → p.2 = lamQ x
/-- the facts of a def -/
structure DOk (K : PySem.W.Frag) (mg : Str → Option Value) (base : Heap) (g : Ga) (t : Tn) (f : Nat) (fd : Fd) : Prop where
  ex : ∃ a dat, g.fa[f]? = some a ∧ mg fd.x = some (.ref a) ∧ FunD K fd.x fd.x fd.args fd.body fd.scope [] [] a dat ∧ Binds K dat fd.ps [] ∧ (fd.x ∈ t.lams → LamF g mg base fd.x dat)
theorem fn_step {ds : List Df} {n f : Nat} {fd : Fd} {d : Df} {a : Addr} {dat : FuncData} (go : GOk P w K mg base g t (calF ds n) n) (hd : ds[f]? = some d) (h : okD t fd d = true) (F : FunD K fd.x fd.x fd.args fd.body fd.scope [] [] a dat) (hlam : fd.x ∈ t.lams → LamF g mg base fd.x dat) :
    FnOk P w K mg base (L2N.CX P w) (n + 1) a dat fd.ps (spC K g (calF ds (n + 1)) (n + 1) f) := by
  unfold okD at h
  obtain ⟨h, h4⟩ := ba h
  obtain ⟨h, h3⟩ := ba h
  obtain ⟨h1, h2⟩ := ba h
  have hn := of_decide_eq_true h2
  have hp := of_decide_eq_true h3
  have S := okSc_ok h1
  have e0 : ∀ xs s, calF ds (n + 1) (n + 1) f xs s = if xs.length = d.p then bnd (exSs (calF ds n) d.body n (startR d xs) s) fun fl s1 => match fl with
      | .rt x => .ok x s1
      | .nx _ => .ok .non s1
      else .bad := fun xs s => by
    have z := calD_succ ds n f xs s
    rw [hd] at z
    exact z
  obtain ⟨oc, od, dV, kV, doc, pm, an, cdv, ct, osl, rfl, lk, hcd, _, _⟩ := F.ex
  refine fn_of lk hcd S (fun vs H Q E h => ?_) (fun A outer s H vs Q E hr h => ?_)
  · obtain ⟨W, s, xs, ok, rv, h⟩ := h
    rw [e0] at h
    split at h
    · rename_i hl
      rw [rv.length, hl, hp]
    · exact h.elim
  · obtain ⟨W, s0, xs, ok, rv, h⟩ := h
    rw [e0] at h
    split at h
    case isFalse => exact h.elim
    rename_i hl
    let X := cxOf (L2N.CX P w) P w K mg base fd.N fd.x fd.scope a cdv A outer s H E
    have tk : L2N.Takes X (fun cls d _ H => E cls d H) := L2N.takes_of rfl rfl rfl (E₁ := _) rfl
    have xo : XOk g X ⟨fd.N, fd.scope, none, decide (fd.x ∈ t.lams)⟩ (fun cls d _ H => E cls d H) n := ⟨⟨rfl, S.nd, rfl, fun _ _ => rfl⟩, rfl, hr, tk, fun e => hlam (of_decide_eq_true e)⟩
    have bo : BOk X := ⟨passes_of rfl⟩
    refine ⟨_, sndSs (X := X) (W0 := W) (H0 := H) go xo bo d.body fd.body h4, W, s0, startR d xs, ⟨.refl W H, ok, start_env hn hl.symm rv, start_own⟩, ?_⟩
    show PostS K g (fun cls d _ H => E cls d H) W H W (exSs (calF ds n) d.body n (startR d xs) s0) _
    revert h
    cases exSs (calF ds n) d.body n (startR d xs) s0 with
    | bad => exact fun h => h
    | ex z s1 => exact fun h W' H' cls dd σ' l x ok' q => h W' H' cls dd x ok' q
    | ok fl s1 =>
      cases fl with
      | rt v => exact fun h W' H' u l x ok' q => h W' H' x ok' u q
      | nx r => exact fun h W' H' σ' l x ok' _ _ => h W' H' x ok' .non rfl
theorem go_all {ds : List Df} {fds : List Fd} (hl : fds.length = ds.length) (hc : ((fds.zip ds).all fun p => okD t p.1 p.2) = true) (hf : t.fns = fds.map (·.x)) (hD : ∀ (f : Nat) (fd : Fd), fds[f]? = some fd → DOk K mg base g t f fd) (hg : g.fa.length = fds.length)
    (hb : ∀ x, x ∈ t.blts → mg x = none) (hcs : ∀ x i, (x, i) ∈ t.consts → ∃ tk, mg x = some (.int i tk))
    (hx : ∀ (j : Nat) (x : Str), t.excs[j]? = some x → ∃ C, g.xa[j]? = some C ∧ mg x = some (.ref C) ∧ PySem.W.keepIn K (.ref C) = true ∧ (j ≠ 11 → ∃ bmB B n1 n2, ExcBaseFacts B n1 n2 bmB ∧ PySem.W.excIn K C bmB n1 = true ∧
      PySem.W.subIn K (.ref C) (.type "BaseException") = some true ∧ PySem.W.typeIn K (.ref C) = some (.type "type"))) (ht : t.tr = true → TryOk P w K mg base g) (htm : t.tm = true → mg ("super" : Str) = none ∧ ∃ C, g.xa[11]? = some C ∧ TmOk P K C ("limit" : Str)) (n : Nat) : GOk P w K mg base g t (calF ds n) n := by
  have ln : t.fns.length = g.fa.length := by rw [hf, List.length_map, hg]
  induction n with
  | zero => exact ⟨fun m hm f x e => by
      have hm : m = 0 := by omega
      subst hm
      rw [hf, List.getElem?_map] at e
      obtain ⟨fd, e1, rfl⟩ := opt_map e
      obtain ⟨a, dat, f1, f2, F, B, _⟩ := (hD f fd e1).ex
      exact ⟨a, dat, fd.ps, f1, f2, F.kp, B, fun vs H Q E ⟨W, s, xs, ok, rv, h⟩ => h.elim, fun A outer s H args us vs Q E _ _ _ _ ⟨W, s0, xs, ok, rv, h⟩ => h.elim⟩, hb, hcs, hx, ht, ln, htm⟩
  | succ n ih =>
    refine ⟨?_, hb, hcs, hx, ht, ln, htm⟩
    intro m hm f x e
    by_cases hmn : m ≤ n
    · obtain ⟨a, fd, ps, q1, q2, q3, q4, q5⟩ := ih.fn m hmn f x e
      refine ⟨a, fd, ps, q1, q2, q3, q4, ?_⟩
      have ec : calF ds (n + 1) m = calF ds n m := by rw [calF_le ds hm, calF_le ds hmn]
      have es : spC K g (calF ds (n + 1)) m f = spC K g (calF ds n) m f := by unfold spC; rw [ec]
      rw [es]; exact q5
    · have hm : m = n + 1 := by omega
      subst hm
      rw [hf, List.getElem?_map] at e
      obtain ⟨fd, e1, e2⟩ := opt_map e
      obtain ⟨a, dat, f1, f2, F, B, L⟩ := (hD f fd e1).ex
      have hi : f < ds.length := by rw [← hl]; exact (List.getElem?_eq_some_iff.mp e1).1
      have hd := List.getElem?_eq_getElem hi
      have hz : (fds.zip ds)[f]? = some (fd, ds[f]) := List.getElem?_zip_eq_some.mpr ⟨e1, hd⟩
      have hm : (fd, ds[f]) ∈ fds.zip ds := List.mem_of_getElem? hz
      have hk := List.all_eq_true.mp hc _ hm
      dsimp only at hk
      have fs := fn_step (a := a) (dat := dat) ih hd hk F L
      rw [← e2]
      exact ⟨a, dat, fd.ps, f1, f2, F.kp, B, fs⟩
end
end Tw
end
section
/-! Part P: behind the top: the facts by names; a law from its plain text. -/
namespace Tw
open PySem PySem.Spec PyProof.Rows L2
theorem bind_plain {x q : Str} {a : Arguments} {body : List Stmt} {sc : Scope} {ps : List Str} (h : plainA a ps = true) (kV doc pm : Value) (an : Option Addr) (cdv ct : Value) (us : List Value) (hl : us.length = ps.length) :
    bindArgs (PySem.W.fnOf x q a body sc .none kV doc pm an cdv ct) ⟨us, []⟩ = pure (ps.zip us) := bind_gen h rfl us hl
def toD (fd : Fd) : He.DefD := ⟨(fd.x, none), fd.x, fd.x, fd.args, fd.body, fd.scope, [], []⟩
def trFa (t : Tn) : List He.Fa := (if t.tr then [.glo "_law_kin", .glo "_law_try", .glo "ApartError", .keep "TooMany"] else []) ++ (if t.tm then [.free "super"] else [])
def faOf (t : Tn) : List He.Fa := t.fns.map .glo ++ (t.blts.map .free ++ (t.consts.map (fun p => .int p.1 p.2) ++ (t.excs.map .glo ++ ((t.excs.take 11).map .exc ++ trFa t))))
def fnOf (t : Tn) (fds : List Fd) (kin tri : Fd) : List He.DefD := fds.map toD ++ (if t.tr then [toD kin, toD tri] else [])
def tfOf (t : Tn) : List He.Defn := t.lams.map fun x => (x, none)
def tabOf (K : PySem.W.Frag) (x : Str) : Addr × Addr := He.cT K (x, none)
def gaOf (K : PySem.W.Frag) (t : Tn) : Ga := ⟨t.fns.map (He.ga K), t.excs.map (He.ga K), t.lams.map fun x => ((tabOf K x).2, lamQ x), none⟩
/-- own facts of the errors' classes and of the tables -/
def exB (P : Program) (t : Tn) (K : PySem.W.Frag) : Bool := (!t.tm || (decide (t.excs[11]? = some ("TooMany" : Str)) && tmB P K (He.ga K "TooMany") "limit")) && (!t.tr || (decide ((t.lams.map fun x => (tabOf K x).2).Nodup) && xfB K (He.ga K "TooMany") && decide (PySem.W.findIn K (.ref (He.ga K "TooMany")) "limit" = some none) &&
  (t.excs.map (He.ga K)).zipIdx.all fun p => excCB K p.1 && decide (PySem.W.kitOne K (.ref p.1) (.type "ValueError") = some true) && decide (PySem.W.exmOne K (.ref p.1) (.ref (He.ga K "TooMany")) = some (decide (p.2 = 11))) &&
    decide (PySem.W.exmOne K (.ref p.1) (.ref (He.ga K "ApartError")) = some true) && (t.excs.map (He.ga K)).zipIdx.all fun q => decide (PySem.W.kitOne K (.ref p.1) (.ref q.1) = some (decide (p.2 = q.2)))))
/-- the two defs fit -/
def trB (t : Tn) (kin tri : Fd) (kd : Df) : Bool := !t.tr || (decide (t.excs[11]? = some ("TooMany" : Str)) && decide (kin.x = ("_law_kin" : Str)) && decide (tri.x = ("_law_try" : Str)) && decide (kin.ps = [("e" : Str)]) && decide (tri.ps = [("call_so" : Str)]) && okSc kin && okSc tri && plainA kin.args kin.ps && plainA tri.args tri.ps &&
  decide (kd.n = kin.N.length) && decide (kd.p = 1) && hotSs (kinT t) ⟨kin.N, kin.scope, none, false⟩ kd.body kin.body && decide (tri.N.length = 3) && decide (tri.N[0]? = some ("call_so" : Str)) && visB tri.scope ("call_so" : Str) && tryB ⟨tri.N, tri.scope, none, false⟩ tri.body)
/-- the Hook: its facts of what is reached from the top's names, and of the statics -/
def asY (g : Addr → Option Obj) (n : Nat) : List Addr := He.asD g n ++ [cStatics]
def obsY (n : Nat) (fa : List He.Fa) (fn : List He.DefD) (tf : List He.Defn) (ex : PySem.W.Frag → Bool) (g : Addr → Option Obj) : He.AlX := (He.obsT fa fn [] (He.frT g (asY g n)), ex (He.frT g (asY g n)) && He.tabsB g tf (He.frT g (asY g n)))
theorem saysY_of {n : Nat} {fa : List He.Fa} {fn : List He.DefD} {tf : List He.Defn} {ex : PySem.W.Frag → Bool} {w : World} {h : Heap} (e : obsY n fa fn tf ex h.get? = He.valX fn [] w) : He.SaysX fa fn [] tf ex w h (He.frT h.get? (asY h.get? n)) := by
  have e1 : He.obsT fa fn [] (He.frT h.get? (asY h.get? n)) = He.valT fn [] w := congrArg (fun z : He.AlX => z.1) e
  have e2 : (ex (He.frT h.get? (asY h.get? n)) && He.tabsB h.get? tf (He.frT h.get? (asY h.get? n))) = true := congrArg (fun z : He.AlX => z.2) e
  obtain ⟨h1, h2⟩ := ba e2
  have each : ∀ p ∈ tf, PySem.W.codeHdIn (He.frT h.get? (asY h.get? n)) (He.cT (He.frT h.get? (asY h.get? n)) p).1 (He.cT (He.frT h.get? (asY h.get? n)) p).2 = true ∧ ∃ o, h.get? (He.cT (He.frT h.get? (asY h.get? n)) p).2 = some o ∧ He.emptyTab o = true := fun p hp => by
    obtain ⟨z1, z2⟩ := ba (List.all_eq_true.mp h2 p hp)
    refine ⟨z1, ?_⟩
    revert z2
    cases h.get? (He.cT (He.frT h.get? (asY h.get? n)) p).2 with
    | none => exact fun z => by cases z
    | some o => exact fun z => ⟨o, rfl, z⟩
  exact ⟨e1, h1, fun p hp => (each p hp).1, fun p hp => let ⟨_, o, q, z⟩ := each p hp; He.frT_none q z, fun p hp => by
    obtain ⟨_, o, q, z⟩ := each p hp
    rw [q, He.emptyTab_eq z]⟩
def hookY (n : Nat) (fa : List He.Fa) (fn : List He.DefD) (tf : List He.Defn) (ex : PySem.W.Frag → Bool) : PySem.W.Hook where
  α := He.AlX
  obs := fun s => obsY n fa fn tf ex s.heap.get?
  val := fun w => He.valX fn [] w
  says := fun w h => ∃ K : PySem.W.Frag, K.In h ∧ He.SaysX fa fn [] tf ex w h K
  of := fun _ _ e => ⟨_, He.frT_in, saysY_of e⟩
  keeps := fun _ _ _ ⟨K, hK, c⟩ k => ⟨K, PySem.W.Frag.In.keeps hK k, ⟨c.t, c.more, c.hd, c.out, fun p hp => k _ _ (c.empty p hp)⟩⟩
theorem obsY_eq {n : Nat} {fa : List He.Fa} {fn : List He.DefD} {tf : List He.Defn} {ex : PySem.W.Frag → Bool} {g : Addr → Option Obj} {s : Shared} (h : ∀ a, g a = s.heap.get? a) : obsY n fa fn tf ex g = (hookY n fa fn tf ex).obs s := by
  have e : g = s.heap.get? := funext h
  rw [e] <;> rfl
theorem zip_at {α : Type} {l : List α} {c : Nat} {a : α} (h : l[c]? = some a) : (a, c) ∈ l.zipIdx := by
  refine List.mem_iff_getElem?.mpr ⟨c, ?_⟩
  rw [List.getElem?_zipIdx, h]
  simp
theorem rep_ints {K : PySem.W.Frag} {g : Ga} {W : Wd} : ∀ ns : List Int, RepL K g W (ns.map .int) (ns.map V.int)
  | [] => rfl
  | n :: ns => ⟨.int n, ns.map V.int, rfl, rfl, rep_ints ns⟩
theorem fn_cx0 {P : Program} {w : World} {K : PySem.W.Frag} {mg : Str → Option Value} {base : Heap} {k : Nat} {f : Addr} {fd : FuncData} {ps : List Str} {sp : Sp} (F : FnOk P w K mg base (L2N.CX P w) k f fd ps sp) :
    FnOk P w K mg base CX0 k f fd ps (fun vs H Q _ => sp vs H Q fun _ _ _ => False) := by
  refine ⟨fun vs H Q E h => F.len vs H Q _ h, fun A outer s H args us vs Q E hr e0 hb r h => ?_⟩
  refine codeAny_mono (F.run A outer s H args us vs Q _ hr e0 hb r h) fun r s' hq => ?_
  cases r with
  | ok fl => cases fl <;> exact hq
  | error e =>
    obtain ⟨a, B, H', cls, d, _, _, _, _, _, _, _, z⟩ := hq
    exact z.elim
theorem nodup_inj {α β : Type} {f : α → β} : ∀ {l : List α}, (l.map f).Nodup → ∀ {a b : α}, a ∈ l → b ∈ l → f a = f b → a = b
  | [], _, _, _, h, _, _ => nomatch h
  | c :: l, nd, a, b, ha, hb, e => by
    obtain ⟨h1, h2⟩ := List.nodup_cons.mp (show (f c :: l.map f).Nodup from nd)
    rcases List.mem_cons.mp ha with ha | ha <;> rcases List.mem_cons.mp hb with hb | hb
    · rw [ha, hb]
    · exact (h1 (by rw [← ha, e]; exact List.mem_map.mpr ⟨b, hb, rfl⟩)).elim
    · exact (h1 (by rw [← hb, ← e]; exact List.mem_map.mpr ⟨a, ha, rfl⟩)).elim
    · exact nodup_inj h2 ha hb e
theorem end_T {l : PySem.W.OpenLaw} {w : World} {K : PySem.W.Frag} {h : Heap} {mg : Str → Option Value} {fds : List Fd} {t : Tn} {ds : List Df} {f N m : Nat} {fd kin tri : Fd} {kd : Df} {fa : Addr} {x : Str} (hl : fds.length = ds.length) (hc : ((fds.zip ds).all fun p => okD t p.1 p.2) = true) (hp : (fds.all fun fd => plainA fd.args fd.ps) = true) (hf : t.fns = fds.map (·.x))
    (ht : trB t kin tri kd = true) (hkk : t.tr = true → ∀ c w, kinW c = some w → exSs cs0 kd.body 0 (startR kd [.xc c]) [] = .ok (.rt (.str w)) []) (hla : (t.lams.all fun x => decide (x ∈ t.fns)) = true) (htr : t.lams = [] ∨ t.tr = true) (hxl : (decide (t.excs.length ≤ 11) || (t.tr && decide (t.excs.length = 12))) = true)
    (X : K.In h) (G : h.Ns mainGlobals mg) (c : He.SaysX (faOf t) (fnOf t fds kin tri) [] (tfOf t) (exB l.prog t) w h K) (hfd : fds[f]? = some fd) (hfa : mg fd.x = some (.ref fa)) (hps : fd.ps = [x])
    (hlaw : ∀ ns : List Int, ns.length ≤ m → ∃ s', calD ds (N + 1) f [.lst (ns.map .int)] [] = .ok (.bl true) s') : LamX.LawAtS l w K CX0 (N + 1) m x mg fa h := by
  have cd := c.t.d
  have mem : ∀ {q : He.Fa}, q ∈ faOf t → q.ok K = true := fun h => He.SaysD.facts cd h
  have hfn : ∀ fd ∈ fds, mg fd.x = some (.ref (He.ga K fd.x)) := fun fd hm => He.glo_ok X G (mem (by
    unfold faOf; rw [hf]
    exact List.mem_append_left _ (List.mem_map.mpr ⟨fd.x, List.mem_map.mpr ⟨fd, hm, rfl⟩, rfl⟩)))
  have hDef : ∀ {fd : Fd}, toD fd ∈ fnOf t fds kin tri → ∃ dat, FunD K fd.x fd.x fd.args fd.body fd.scope [] [] (He.ga K fd.x) dat := fun {fd} hm => He.SaysD.defs cd hm
  have hFD : ∀ (i : Nat) (fd : Fd), fds[i]? = some fd → ∃ dat, FunD K fd.x fd.x fd.args fd.body fd.scope [] [] (He.ga K fd.x) dat := fun i fd e => hDef (List.mem_append_left _ (List.mem_map.mpr ⟨fd, List.mem_of_getElem? e, rfl⟩))
  have hB0 : ∀ {fd : Fd} {dat : FuncData}, plainA fd.args fd.ps = true → FunD K fd.x fd.x fd.args fd.body fd.scope [] [] (He.ga K fd.x) dat → Binds K dat fd.ps [] := fun {fd dat} hpl F =>
    FunD.bindsN F fun kV doc pm an cdv ct us hl => bind_plain hpl kV doc pm an cdv ct us hl
  have hB : ∀ (i : Nat) (fd : Fd) (dat : FuncData), fds[i]? = some fd → FunD K fd.x fd.x fd.args fd.body fd.scope [] [] (He.ga K fd.x) dat → Binds K dat fd.ps [] := fun i fd dat e F => hB0 (List.all_eq_true.mp hp fd (List.mem_of_getElem? e)) F
  have exK0 := c.more
  obtain ⟨exM, exK⟩ := ba (show ((!t.tm || _) && _) = true from exK0)
  have uniq : (t.lams.map fun x => (tabOf K x).2).Nodup := by
    rcases htr with e | e
    · rw [e]; exact List.nodup_nil
    · rw [e] at exK
      simp only [Bool.not_true, Bool.false_or, Bool.and_eq_true] at exK
      exact of_decide_eq_true exK.1.1.1
  have hD : ∀ (base : Heap), (∀ p ∈ t.lams.map (tabOf K), LamX.TabB base mg p.1 p.2) → ∀ (i : Nat) (fd : Fd), fds[i]? = some fd → DOk K mg base (gaOf K t) t i fd := fun base TB i fd e => by
    obtain ⟨dat, F⟩ := hFD i fd e
    refine ⟨_, dat, ?_, hfn fd (List.mem_of_getElem? e), F, hB i fd dat e F, fun hm => ?_⟩
    · show (t.fns.map (He.ga K))[i]? = _
      rw [hf, List.getElem?_map, List.getElem?_map, e]; rfl
    · obtain ⟨oc, od, dV, kV, doc, pm, an, cdv, ct, osl, rfl, lk, hcd, _, _⟩ := F.ex
      obtain ⟨co, rfl⟩ := He.codeIn_ref hcd
      have ec : (tabOf K fd.x).1 = co := He.codeOf_eq (p := (fd.x, none)) lk rfl
      refine ⟨co, (tabOf K fd.x).2, rfl, by rw [← ec]; exact TB _ (List.mem_map.mpr ⟨fd.x, hm, rfl⟩), List.mem_map.mpr ⟨fd.x, hm, rfl⟩, fun p hp' e => ?_⟩
      obtain ⟨y, hy, rfl⟩ := List.mem_map.mp hp'
      have ey : y = fd.x := nodup_inj uniq hy hm e
      rw [ey]
  have hblt : ∀ x, x ∈ t.blts → mg x = none := fun x hx => He.free_ok X G (mem (by
    unfold faOf
    exact List.mem_append_right _ (List.mem_append_left _ (List.mem_map.mpr ⟨x, hx, rfl⟩))))
  have hcst : ∀ x i, (x, i) ∈ t.consts → ∃ tk, mg x = some (.int i tk) := fun x i hx => He.int_ok X G (mem (by
    unfold faOf
    exact List.mem_append_right _ (List.mem_append_right _ (List.mem_append_left _ (List.mem_map.mpr ⟨(x, i), hx, rfl⟩)))))
  have hglo : ∀ x, x ∈ t.excs → mg x = some (.ref (He.ga K x)) := fun x hm => He.glo_ok X G (mem (by
    unfold faOf
    exact List.mem_append_right _ (List.mem_append_right _ (List.mem_append_right _ (List.mem_append_left _ (List.mem_map.mpr ⟨x, hm, rfl⟩))))))
  have htrF : ∀ {q : He.Fa}, q ∈ trFa t → q.ok K = true := fun {q} hq => mem (by
    unfold faOf
    exact List.mem_append_right _ (List.mem_append_right _ (List.mem_append_right _ (List.mem_append_right _ (List.mem_append_right _ hq)))))
  have hex11 : ∀ (j : Nat) (x : Str), t.excs[j]? = some x → j < 11 → (He.Fa.exc x).ok K = true := fun j x e hj => mem (by
    unfold faOf
    refine List.mem_append_right _ (List.mem_append_right _ (List.mem_append_right _ (List.mem_append_right _ (List.mem_append_left _ (List.mem_map.mpr ⟨x, ?_, rfl⟩)))))
    exact List.mem_of_getElem? (i := j) (by rw [List.getElem?_take, if_pos hj]; exact e))
  have hexc : ∀ (j : Nat) (x : Str), t.excs[j]? = some x → ∃ C, (gaOf K t).xa[j]? = some C ∧ mg x = some (.ref C) ∧ PySem.W.keepIn K (.ref C) = true ∧ (j ≠ 11 → ∃ bmB B n1 n2, ExcBaseFacts B n1 n2 bmB ∧ PySem.W.excIn K C bmB n1 = true ∧
      PySem.W.subIn K (.ref C) (.type "BaseException") = some true ∧ PySem.W.typeIn K (.ref C) = some (.type "type")) := fun j x e => by
    have hj := (List.getElem?_eq_some_iff.mp e).1
    have e1 : (gaOf K t).xa[j]? = some (He.ga K x) := by
      show (t.excs.map (He.ga K))[j]? = _
      rw [List.getElem?_map, e]; rfl
    by_cases h11 : j < 11
    · obtain ⟨c1, c2, c3, c4⟩ := He.exc_ok (x := x) (K := K) (hex11 j x e h11)
      exact ⟨He.ga K x, e1, hglo x (List.mem_of_getElem? e), c2, fun _ => ⟨_, _, _, _, PySem.F.excBase_ValueError, c1, c3, c4⟩⟩
    · rcases Bool.or_eq_true_iff.mp hxl with z | z
      · have := of_decide_eq_true z
        omega
      · obtain ⟨z1, z2⟩ := ba z
        have z2 := of_decide_eq_true z2
        have ej : j = 11 := by omega
        subst ej
        have ht' := ht
        unfold trB at ht'
        rw [z1] at ht'
        simp only [Bool.not_true, Bool.false_or, Bool.and_eq_true] at ht'
        obtain ⟨⟨⟨⟨⟨⟨⟨⟨⟨⟨⟨⟨⟨⟨⟨t1, _⟩, _⟩, _⟩, _⟩, _⟩, _⟩, _⟩, _⟩, _⟩, _⟩, _⟩, _⟩, _⟩, _⟩, _⟩ := ht'
        have t1 := of_decide_eq_true t1
        rw [e] at t1
        cases t1
        have hk : PySem.W.keepIn K (.ref (He.ga K "TooMany")) = true := He.keep_ok (htrF (by unfold trFa; rw [if_pos z1]; exact List.mem_append_left _ (by simp)))
        exact ⟨He.ga K "TooMany", e1, hglo _ (List.mem_of_getElem? e), hk, fun q => (q rfl).elim⟩
  have htry : ∀ base : Heap, t.tr = true → TryOk l.prog w K mg base (gaOf K t) := fun base z1 => by
    have ht' := ht
    unfold trB at ht'
    rw [z1] at ht'
    simp only [Bool.not_true, Bool.false_or, Bool.and_eq_true] at ht'
    obtain ⟨⟨⟨⟨⟨⟨⟨⟨⟨⟨⟨⟨⟨⟨⟨t1, t2⟩, t3⟩, t4⟩, t5⟩, t6⟩, t7⟩, t8⟩, t9⟩, t10⟩, t11⟩, t12⟩, t13⟩, t14⟩, t15⟩, t16⟩ := ht'
    have t1 := of_decide_eq_true t1
    have t2 := of_decide_eq_true t2
    have t3 := of_decide_eq_true t3
    have t4 := of_decide_eq_true t4
    have t5 := of_decide_eq_true t5
    have t10 := of_decide_eq_true t10
    have t11 := of_decide_eq_true t11
    have t13 := of_decide_eq_true t13
    have t14 := of_decide_eq_true t14
    have exK' := exK
    rw [z1] at exK'
    simp only [Bool.not_true, Bool.false_or, Bool.and_eq_true, List.all_eq_true] at exK'
    obtain ⟨⟨⟨_, x2⟩, x3⟩, x4⟩ := exK'
    have hfn2 : ∀ {fd : Fd}, (fd = kin ∨ fd = tri) → ∃ dat, FunD K fd.x fd.x fd.args fd.body fd.scope [] [] (He.ga K fd.x) dat := fun {fd} e => hDef (by
      unfold fnOf
      rw [if_pos z1]
      refine List.mem_append_right _ ?_
      rcases e with e | e <;> rw [e] <;> simp)
    obtain ⟨kdat, KF⟩ := hfn2 (.inl rfl : kin = kin ∨ kin = tri)
    obtain ⟨tdat, TF⟩ := hfn2 (.inr rfl : tri = kin ∨ tri = tri)
    have KB := hB0 t8 KF
    have TBd := hB0 t9 TF
    have xt : XcT K (gaOf K t) := ⟨fun c C hC => by
        obtain ⟨⟨⟨⟨q1, q2⟩, _⟩, _⟩, _⟩ := x4 _ (zip_at hC)
        exact ⟨excCB_ok q1, of_decide_eq_true q2⟩, fun c k C D hC hD => by
        obtain ⟨_, q⟩ := x4 _ (zip_at hC)
        exact of_decide_eq_true (q _ (zip_at hD))⟩
    have mgK : mg ("_law_kin" : Str) = some (.ref (He.ga K "_law_kin")) := He.glo_ok X G (htrF (by unfold trFa; rw [if_pos z1]; exact List.mem_append_left _ (by simp)))
    have mgT : mg ("_law_try" : Str) = some (.ref (He.ga K "_law_try")) := He.glo_ok X G (htrF (by unfold trFa; rw [if_pos z1]; exact List.mem_append_left _ (by simp)))
    have mgA : mg ("ApartError" : Str) = some (.ref (He.ga K "ApartError")) := He.glo_ok X G (htrF (by unfold trFa; rw [if_pos z1]; exact List.mem_append_left _ (by simp)))
    have mgM : mg ("TooMany" : Str) = some (.ref (He.ga K "TooMany")) := hglo _ (List.mem_of_getElem? t1)
    have KS := okSc_ok t6
    have TS := okSc_ok t7
    obtain ⟨oc, od, dV, kV, doc, pm, an, cdv, ct, osl, et, lk, hcd, _, _⟩ := TF.ex
    subst et
    rw [t3] at lk hcd TBd
    rw [t5] at TBd TS
    have hk2 : PySem.W.keepIn K (.ref (He.ga K ("_law_try" : Str))) = true := by have z := TF.kp; rw [t3] at z; exact z
    refine ⟨He.ga K "_law_try", tri.args, tri.body, tri.scope, dV, kV, doc, pm, cdv, ct, oc, an, od, osl, tri.N, mgT, hk2, lk, hcd, TBd, TS, t14, visB_ok t15, fun Y q k e1 e2 e3 e4 e5 => ?_⟩
    have KFP : FnP Y.prog Y.w Y.K Y.mg Y.base C8.CX0 (k + 1) (He.ga K kin.x) kdat kin.ps (spKin (gaOf K t)) := by
      rw [e3, e4]
      exact kin_ok KF KS (by rw [t4]; rfl) t10 t11 t12 (hkk z1) hblt hexc xt
    rw [t4] at KFP KB
    have hkk2 : PySem.W.keepIn Y.K (.ref (He.ga K kin.x)) = true := by rw [e3]; exact KF.kp
    have gg := try_gives (X := Y) (g := gaOf K t) (kf := He.ga K kin.x) (kdat := kdat) (C11 := He.ga K "TooMany") (CA := He.ga K "ApartError") (k := k) (g0 := He.ga K "_law_try") (cdg := cdv) (q := q) TS t13 t16 (by rw [e4]; exact mgM) (by rw [e4]; exact mgA) (by rw [e4, ← t2]; exact (t2 ▸ mgK : mg kin.x = some (.ref (He.ga K kin.x)))) hkk2 (by rw [e3]; exact KB) KFP (by rw [e3]; exact xfB_ok x2) (by rw [e3]; exact of_decide_eq_true x3)
      (by
        show (t.excs.map (He.ga K))[11]? = _
        rw [List.getElem?_map, t1]; rfl)
      (fun c C hC => by
        rw [e3]
        obtain ⟨⟨⟨_, q1⟩, q2⟩, _⟩ := x4 _ (zip_at hC)
        exact ⟨of_decide_eq_true q1, of_decide_eq_true q2⟩)
    rw [e3] at gg
    exact gg
  have htm : t.tm = true → mg ("super" : Str) = none ∧ ∃ C, (gaOf K t).xa[11]? = some C ∧ TmOk l.prog K C ("limit" : Str) := fun z => by
    rw [z] at exM
    simp only [Bool.not_true, Bool.false_or] at exM
    obtain ⟨m1, m2⟩ := ba exM
    refine ⟨He.free_ok X G (htrF (by unfold trFa; rw [if_pos z]; exact List.mem_append_right _ (by simp))), He.ga K "TooMany", ?_, tmB_ok m2⟩
    show (t.excs.map (He.ga K))[11]? = _
    rw [List.getElem?_map, of_decide_eq_true m1]; rfl
  have go : ∀ base : Heap, (∀ p ∈ t.lams.map (tabOf K), LamX.TabB base mg p.1 p.2) → GOk l.prog w K mg base (gaOf K t) t (calF ds N) N := fun base TB => go_all hl hc hf (hD base TB) (by
    show (t.fns.map (He.ga K)).length = _
    rw [hf]; simp) hblt hcst hexc (htry base) htm N
  obtain ⟨dat, F⟩ := hFD f fd hfd
  have B := hB f fd dat hfd F
  have ea : He.ga K fd.x = fa := by
    have z := (hfn fd (List.mem_of_getElem? hfd)).symm.trans hfa
    cases z; rfl
  have tfm : ∀ p ∈ t.lams.map (tabOf K), ∃ q ∈ tfOf t, p = He.cT K q := fun p hp => by
    obtain ⟨y, hy, e⟩ := List.mem_map.mp hp
    exact ⟨(y, none), List.mem_map.mpr ⟨y, hy, rfl⟩, e.symm⟩
  refine ⟨dat, t.lams.map (tabOf K), fun vs H Q _ => spC K (gaOf K t) (calF ds (N + 1)) (N + 1) f vs H Q fun _ _ _ => False, fun p hp => ?_, fun p hp => ?_, fun p hp => ?_, fun s u => ?_, fun H a ns hm _ hT hS => ?_, fun base _ _ TB => ?_⟩
  · obtain ⟨q, hq, rfl⟩ := tfm p hp
    exact c.empty q hq
  · obtain ⟨q, hq, rfl⟩ := tfm p hp
    exact c.out q hq
  · obtain ⟨q, hq, rfl⟩ := tfm p hp
    exact PySem.W.codeHd_of_K X (c.hd q hq)
  · have b := FunD.bindsA (ps := fd.ps) F (fun kV doc pm an cdv ct us hl => bind_plain (List.all_eq_true.mp hp fd (List.mem_of_getElem? hfd)) kV doc pm an cdv ct us hl) s [u] (by rw [hps]; rfl)
    rw [hps] at b
    exact b
  · obtain ⟨s', e⟩ := hlaw ns hm
    have e : calF ds (N + 1) (N + 1) f [.lst (ns.map .int)] [] = .ok (.bl true) s' := e
    let W : Wd := ⟨fun a => match H a with
      | some (.tbl _) => none
      | o => o, []⟩
    have tab : LamX.Tabs (gaOf K t).T H := fun p hp => by
      obtain ⟨y, hy, rfl⟩ := List.mem_map.mp hp
      exact LamX.TabS.nil (hT _ (List.mem_map.mpr ⟨y, hy, rfl⟩))
    have sub : ∀ a o, W.F a = some o → H a = some o ∧ ∀ ps, o ≠ .tbl ps := fun a o q => by
      have q : (match H a with
        | some (.tbl _) => none
        | o => o) = some o := q
      split at q
      · cases q
      · rename_i hn
        exact ⟨q, fun ps z => hn ps (by rw [q, z])⟩
    have up : ∀ {a : Addr} {o : HO}, H a = some o → (∀ ps, o ≠ .tbl ps) → W.F a = some o := fun {a o} q n => by
      show (match H a with
        | some (.tbl _) => none
        | o => o) = some o
      rw [q]
      cases o <;> first | rfl | exact (n _ rfl).elim
    have hS' : SqL K W.F a (ns.map V.int) := hS.elim (fun z => .inl (z.elim (fun q => .inl (up q fun ps z => nomatch z)) fun ⟨o, q⟩ => .inr ⟨o, up q fun ps z => nomatch z⟩)) .inr
    refine ⟨W, [], [.lst (ns.map .int)], ⟨fun a o q => (sub a o q).1, rfl, List.nodup_nil, (fun a h => nomatch h), (fun k a b h => by
      have h : ([] : List Addr)[k]? = some a := h
      simp at h), tab, fun a ps q => (sub a _ q).2 ps rfl⟩, .one ⟨a, _, rfl, hS', rep_ints ns⟩, ?_⟩
    rw [e]
    intro W' H' _ _ v rv
    exact rv
  · have hi : f < ds.length := by rw [← hl]; exact (List.getElem?_eq_some_iff.mp hfd).1
    have hd := List.getElem?_eq_getElem hi
    have hz : (fds.zip ds)[f]? = some (fd, ds[f]) := List.getElem?_zip_eq_some.mpr ⟨hfd, hd⟩
    have hk := List.all_eq_true.mp hc _ (List.mem_of_getElem? hz)
    dsimp only at hk
    obtain ⟨a', dat', f1, f2, F', B', L⟩ := (hD base TB f fd hfd).ex
    have ea' : a' = He.ga K fd.x := by
      have z := f2.symm.trans (hfn fd (List.mem_of_getElem? hfd))
      cases z; rfl
    subst ea'
    have ed : dat' = dat := by
      obtain ⟨_, _, _, _, _, _, _, _, _, _, _, k1, _⟩ := F.ex
      obtain ⟨_, _, _, _, _, _, _, _, _, _, _, k2, _⟩ := F'.ex
      rw [k1] at k2
      cases k2; rfl
    subst ed
    have FF := fn_step (a := He.ga K fd.x) (dat := dat') (go base TB) hd hk F L
    rw [ea, hps] at FF
    exact fn_cx0 FF
end Tw
end
section
open PySem
namespace Tw.K09
/-- 0 is_within: value low high -/
def b_is_within : Ss := (.cons (.ret (.an (.isi [.int] (.var 0)) (.an (.nt (.isi [.bool] (.var 0))) (.ch2 .le .le (.var 1) (.var 0) (.var 2))))) .nil)
def d_is_within : Df := ⟨3, 3, b_is_within⟩
/-- 1 is_pair: n value place -/
def b_is_pair : Ss := (.cons (.ifs (.or (.nt (.isi [.tuple] (.var 1))) (.or (.cmp .ne (.bi .len (.cons (.var 1) .nil)) (.int 2)) (.nt (.bi .all (.cons (.lc [2] (.nm 2) (.seq (.var 1)) .no (.cal 0 (.cons (.var 2) (.cons (.int 0) (.cons (.bin .sub (.var 0) (.int 1)) .nil))))) .nil))))) (.cons (.ret (.bl false)) .nil) .nil) (.cons (.ret (.cmp .lt (.idx (.var 1) (.int 0)) (.idx (.var 1) (.int 1)))) .nil))
def d_is_pair : Df := ⟨3, 2, b_is_pair⟩
/-- 2 are_pairs: n value one other pair -/
def b_are_pairs : Ss := (.cons (.ifs (.or (.nt (.isi [.tuple] (.var 1))) (.nt (.bi .all (.cons (.lc [4] (.nm 4) (.seq (.var 1)) .no (.cal 1 (.cons (.var 0) (.cons (.var 4) .nil)))) .nil)))) (.cons (.ret (.bl false)) .nil) .nil) (.cons (.ret (.bi .all (.cons (.lc [2, 3] (.tp [2, 3]) (.zip (.var 1) (.sl (.var 1) (.so (.int 1)) .no)) .no (.cmp .lt (.var 2) (.var 3))) .nil))) .nil))
def d_are_pairs : Df := ⟨5, 2, b_are_pairs⟩
/-- 3 is_web_value: value -/
def b_is_web_value : Ss := (.cons (.ifs (.or (.nt (.isi [.tuple] (.var 0))) (.or (.cmp .ne (.bi .len (.cons (.var 0) .nil)) (.int 2)) (.nt (.cal 0 (.cons (.idx (.var 0) (.int 0)) (.cons (.int 1) (.cons (.gint "MOST_PLACES" 7) .nil))))))) (.cons (.ret (.bl false)) .nil) .nil) (.cons (.ret (.cal 2 (.cons (.idx (.var 0) (.int 0)) (.cons (.idx (.var 0) (.int 1)) .nil)))) .nil))
def d_is_web_value : Df := ⟨1, 1, b_is_web_value⟩
/-- 4 need_web: value -/
def b_need_web : Ss := (.cons (.ifs (.nt (.cal 3 (.cons (.var 0) .nil))) (.cons (.rai 0) .nil) .nil) .nil)
def d_need_web : Df := ⟨1, 1, b_need_web⟩
/-- 5 all_pairs: n found one other -/
def b_all_pairs : Ss := (.cons (.set 1 (.lst .nil)) (.cons (.for (.nm 2) (.rng (.cons (.var 0) .nil)) (.cons (.set 1 (.bin .add (.var 1) (.lc [3] (.nm 3) (.rng (.cons (.bin .add (.var 2) (.int 1)) (.cons (.var 0) .nil))) .no (.tup (.cons (.var 2) (.cons (.var 3) .nil)))))) .nil)) (.cons (.ret (.var 1)) .nil)))
def d_all_pairs : Df := ⟨4, 1, b_all_pairs⟩
/-- 6 are_tied: web one other -/
def b_are_tied : Ss := (.cons (.ret (.cmp .in (.tup (.cons (.bi .min2 (.cons (.var 1) (.cons (.var 2) .nil))) (.cons (.bi .max2 (.cons (.var 1) (.cons (.var 2) .nil))) .nil))) (.idx (.var 0) (.int 1)))) .nil)
def d_are_tied : Df := ⟨3, 3, b_are_tied⟩
/-- 7 near: web place other -/
def b_near : Ss := (.cons (.ret (.bi .tuple (.cons (.lc [2] (.nm 2) (.rng (.cons (.idx (.var 0) (.int 0)) .nil)) (.so (.cal 6 (.cons (.var 0) (.cons (.var 1) (.cons (.var 2) .nil))))) (.var 2)) .nil))) .nil)
def d_near : Df := ⟨3, 2, b_near⟩
/-- 8 counter: web pair -/
def b_counter : Ss := (.cons (.ret (.tup (.cons (.idx (.var 0) (.int 0)) (.cons (.bi .tuple (.cons (.lc [1] (.nm 1) (.seq (.cal 5 (.cons (.idx (.var 0) (.int 0)) .nil))) (.so (.cmp .notin (.var 1) (.idx (.var 0) (.int 1)))) (.var 1)) .nil)) .nil)))) .nil)
def d_counter : Df := ⟨2, 1, b_counter⟩
/-- 9 longer: web rows found row some place one -/
def b_longer : Ss := (.cons (.set 2 (.lst .nil)) (.cons (.for (.nm 3) (.seq (.var 1)) (.cons (.set 4 (.lc [5] (.nm 5) (.seq (.cal 7 (.cons (.var 0) (.cons (.idx (.var 3) (.neg (.int 1))) .nil)))) (.so (.cmp .notin (.var 5) (.var 3))) (.var 5))) (.cons (.set 2 (.bin .add (.var 2) (.lc [5] (.nm 5) (.seq (.var 4)) (.so (.nt (.bi .any (.cons (.lc [6] (.nm 6) (.seq (.sl (.var 3) (.so (.int 1)) (.so (.neg (.int 1))))) .no (.cal 6 (.cons (.var 0) (.cons (.var 5) (.cons (.var 6) .nil))))) .nil)))) (.bin .add (.var 3) (.tup (.cons (.var 5) .nil)))))) .nil))) (.cons (.ret (.var 2)) .nil)))
def d_longer : Df := ⟨7, 2, b_longer⟩
/-- 10 holes_of: web found rows size place row -/
def b_holes_of : Ss := (.cons (.set 1 (.lst .nil)) (.cons (.set 2 (.lc [4] (.nm 4) (.rng (.cons (.idx (.var 0) (.int 0)) .nil)) .no (.tup (.cons (.var 4) .nil)))) (.cons (.for (.nm 3) (.rng (.cons (.int 2) (.cons (.bin .add (.idx (.var 0) (.int 0)) (.int 1)) .nil))) (.cons (.set 2 (.lc [5] (.nm 5) (.seq (.cal 9 (.cons (.var 0) (.cons (.var 2) .nil)))) (.so (.cmp .gt (.idx (.var 5) (.neg (.int 1))) (.idx (.var 5) (.int 0)))) (.var 5))) (.cons (.ifs (.cmp .ge (.var 3) (.int 5)) (.cons (.set 1 (.bin .add (.var 1) (.bi .sorted (.cons (.lc [5] (.nm 5) (.seq (.var 2)) (.so (.an (.cal 6 (.cons (.var 0) (.cons (.idx (.var 5) (.int 0)) (.cons (.idx (.var 5) (.neg (.int 1))) .nil)))) (.cmp .lt (.idx (.var 5) (.int 1)) (.idx (.var 5) (.neg (.int 1)))))) (.var 5)) .nil)))) .nil) .nil) (.cons (.set 2 (.lc [5] (.nm 5) (.seq (.var 2)) (.so (.or (.cmp .eq (.var 3) (.int 2)) (.nt (.cal 6 (.cons (.var 0) (.cons (.idx (.var 5) (.int 0)) (.cons (.idx (.var 5) (.neg (.int 1))) .nil))))))) (.var 5))) .nil)))) (.cons (.ret (.var 1)) .nil))))
def d_holes_of : Df := ⟨6, 1, b_holes_of⟩
/-- 11 first_of: web word some -/
def b_first_of : Ss := (.cons (.for (.tp [1, 2]) (.seq (.tup (.cons (.tup (.cons (.str "hole") (.cons (.cal 10 (.cons (.var 0) .nil)) .nil))) (.cons (.tup (.cons (.str "antihole") (.cons (.cal 10 (.cons (.cal 8 (.cons (.var 0) .nil)) .nil)) .nil))) .nil)))) (.cons (.ifs (.cmp .ne (.var 2) (.lst .nil)) (.cons (.ret (.tup (.cons (.var 1) (.cons (.idx (.var 2) (.int 0)) .nil)))) .nil) .nil) .nil)) (.cons (.ret .non) .nil))
def d_first_of : Df := ⟨3, 1, b_first_of⟩
/-- 12 calm: web -/
def b_calm : Ss := (.cons (.ret (.cmp .is (.cal 11 (.cons (.var 0) .nil)) .non)) .nil)
def d_calm : Df := ⟨1, 1, b_calm⟩
/-- 13 against: web -/
def b_against : Ss := (.cons (.exp (.cal 4 (.cons (.var 0) .nil))) (.cons (.ret (.cal 8 (.cons (.var 0) .nil))) .nil))
def d_against : Df := ⟨1, 1, b_against⟩
/-- 14 chosen: pairs many found turn more row pair -/
def b_chosen : Ss := (.cons (.set 2 (.lst (.cons (.tup .nil) .nil))) (.cons (.for (.nm 3) (.rng (.cons (.var 1) .nil)) (.cons (.set 4 (.lst .nil)) (.cons (.for (.nm 5) (.seq (.var 2)) (.cons (.set 4 (.bin .add (.var 4) (.lc [6] (.nm 6) (.seq (.var 0)) (.so (.or (.cmp .eq (.var 5) (.tup .nil)) (.cmp .gt (.var 6) (.idx (.var 5) (.neg (.int 1)))))) (.bin .add (.var 5) (.tup (.cons (.var 6) .nil)))))) .nil)) (.cons (.set 2 (.var 4)) .nil)))) (.cons (.ret (.var 2)) .nil)))
def d_chosen : Df := ⟨7, 2, b_chosen⟩
/-- 15 with_ties: web more -/
def b_with_ties : Ss := (.cons (.ret (.tup (.cons (.idx (.var 0) (.int 0)) (.cons (.bi .tuple (.cons (.set (.bin .add (.idx (.var 0) (.int 1)) (.var 1))) .nil)) .nil)))) .nil)
def d_with_ties : Df := ⟨2, 2, b_with_ties⟩
/-- 16 without_ties: web some tie -/
def b_without_ties : Ss := (.cons (.ret (.tup (.cons (.idx (.var 0) (.int 0)) (.cons (.bi .tuple (.cons (.lc [2] (.nm 2) (.seq (.idx (.var 0) (.int 1))) (.so (.cmp .notin (.var 2) (.var 1))) (.var 2)) .nil)) .nil)))) .nil)
def d_without_ties : Df := ⟨3, 2, b_without_ties⟩
/-- 17 first_calm: web pairs change many row -/
def b_first_calm : Ss := (.cons (.for (.nm 3) (.rng (.cons (.bin .add (.bi .len (.cons (.var 1) .nil)) (.int 1)) .nil)) (.cons (.for (.nm 4) (.seq (.cal 14 (.cons (.var 1) (.cons (.var 3) .nil)))) (.cons (.ifs (.cal 12 (.cons (.clv 2 (.cons (.var 0) (.cons (.var 4) .nil))) .nil)) (.cons (.ret (.var 4)) .nil) .nil) .nil)) .nil)) (.cons (.ret .non) .nil))
def d_first_calm : Df := ⟨5, 3, b_first_calm⟩
/-- 18 need_small: web -/
def b_need_small : Ss := (.cons (.exp (.cal 4 (.cons (.var 0) .nil))) (.cons (.ifs (.cmp .gt (.idx (.var 0) (.int 0)) (.gint "MOST_MENDED" 6)) (.cons (.rail (.gint "MOST_MENDED" 6)) .nil) .nil) .nil))
def d_need_small : Df := ⟨1, 1, b_need_small⟩
/-- 19 least_struck: web -/
def b_least_struck : Ss := (.cons (.exp (.cal 18 (.cons (.var 0) .nil))) (.cons (.ret (.cal 17 (.cons (.var 0) (.cons (.idx (.var 0) (.int 1)) (.cons (.gfn 16) .nil))))) .nil))
def d_least_struck : Df := ⟨1, 1, b_least_struck⟩
/-- 20 least_put: web -/
def b_least_put : Ss := (.cons (.exp (.cal 18 (.cons (.var 0) .nil))) (.cons (.ret (.cal 17 (.cons (.var 0) (.cons (.idx (.cal 8 (.cons (.var 0) .nil)) (.int 1)) (.cons (.gfn 15) .nil))))) .nil))
def d_least_put : Df := ⟨1, 1, b_least_put⟩
/-- 21 _law_deck: cell turn -/
def b__law_deck : Ss := (.cons (.ifs (.cmp .ge (.var 0) (.bin .pow (.int 10) (.int 18))) (.cons (.retB (.lst (.cons (.bin .sub (.var 0) (.bin .pow (.int 10) (.int 18))) (.cons (.bin .mod (.var 0) (.int 2147483579)) (.cons (.var 1) .nil))))) .nil) .nil) (.cons (.retB (.lst (.cons (.int 0) (.cons (.bin .mod (.var 0) (.int 2147483579)) (.cons (.var 1) .nil))))) .nil))
def d__law_deck : Df := ⟨2, 2, b__law_deck⟩
/-- 22 _law_pick: deck size number found -/
def b__law_pick : Ss := (.cons (.ifs (.cmp .gt (.idx (.var 0) (.int 0)) (.int 1)) (.cons (.set 3 (.bin .mod (.bi .int (.cons (.idx (.var 0) (.int 0)) .nil)) (.var 1))) (.cons (.stb 0 (.int 0) (.bin .fdiv (.idx (.var 0) (.int 0)) (.var 1))) (.cons (.ret (.var 3)) .nil))) .nil) (.cons (.stb 0 (.int 2) (.bin .add (.idx (.var 0) (.int 2)) (.int 1))) (.cons (.set 2 (.bin .mod (.bin .pow (.bin .add (.idx (.var 0) (.int 1)) (.bin .mul (.int 15485867) (.idx (.var 0) (.int 2)))) (.int 5)) (.int 2147483647))) (.cons (.set 3 (.bin .fdiv (.bin .mod (.bin .pow (.bin .add (.var 2) (.bin .mul (.int 7919) (.idx (.var 0) (.int 2)))) (.int 3)) (.int 2147483629)) (.int 32))) (.cons (.ret (.bin .mod (.bi .int (.cons (.var 3) .nil)) (.var 1))) .nil)))))
def d__law_pick : Df := ⟨4, 2, b__law_pick⟩
/-- 23 _law_sort: thing -/
def b__law_sort : Ss := (.cons (.ifs (.isi [.bool] (.var 0)) (.cons (.ret (.int 1)) .nil) .nil) (.cons (.ifs (.isi [.int] (.var 0)) (.cons (.ret (.int 2)) .nil) .nil) (.cons (.ifs (.isi [.str] (.var 0)) (.cons (.ret (.int 3)) .nil) .nil) (.cons (.ifs (.isi [.list] (.var 0)) (.cons (.ret (.int 4)) .nil) .nil) (.cons (.ret (.ite (.isi [.tuple] (.var 0)) (.int 5) (.int 6))) .nil)))))
def d__law_sort : Df := ⟨1, 1, b__law_sort⟩
/-- 24 _law_same: told due k part -/
def b__law_same : Ss := (.cons (.ifs (.cmp .ne (.cal 23 (.cons (.var 0) .nil)) (.cal 23 (.cons (.var 1) .nil))) (.cons (.ret (.bl false)) .nil) .nil) (.cons (.ifs (.an (.cmp .gt (.cal 23 (.cons (.var 0) .nil)) (.int 3)) (.cmp .lt (.cal 23 (.cons (.var 0) .nil)) (.int 6))) (.cons (.ifs (.cmp .ne (.bi .len (.cons (.var 0) .nil)) (.bi .len (.cons (.var 1) .nil))) (.cons (.ret (.bl false)) .nil) .nil) (.cons (.ret (.cmp .eq (.lc [2, 3] (.tp [2, 3]) (.enm (.var 0)) (.so (.nt (.cal 24 (.cons (.var 3) (.cons (.idx (.var 1) (.var 2)) .nil))))) (.var 2)) (.lst .nil))) .nil)) .nil) (.cons (.ret (.cmp .eq (.var 0) (.var 1))) .nil)))
def d__law_same : Df := ⟨4, 2, b__law_same⟩
/-- 25 _law_known: p s c h -/
def b__law_known : Ss := (.cons (.par [(0, false), (1, false)] (.cons (.tup (.cons (.int 4) (.cons (.tup (.cons (.tup (.cons (.int 0) (.cons (.int 1) .nil))) (.cons (.tup (.cons (.int 1) (.cons (.int 2) .nil))) (.cons (.tup (.cons (.int 2) (.cons (.int 3) .nil))) .nil)))) .nil))) (.cons (.tup (.cons (.int 4) (.cons (.tup (.cons (.tup (.cons (.int 0) (.cons (.int 1) .nil))) (.cons (.tup (.cons (.int 0) (.cons (.int 3) .nil))) (.cons (.tup (.cons (.int 1) (.cons (.int 2) .nil))) (.cons (.tup (.cons (.int 2) (.cons (.int 3) .nil))) .nil))))) .nil))) .nil))) (.cons (.set 2 (.tup (.cons (.int 5) (.cons (.tup (.cons (.tup (.cons (.int 0) (.cons (.int 1) .nil))) (.cons (.tup (.cons (.int 0) (.cons (.int 4) .nil))) (.cons (.tup (.cons (.int 1) (.cons (.int 2) .nil))) (.cons (.tup (.cons (.int 2) (.cons (.int 3) .nil))) (.cons (.tup (.cons (.int 3) (.cons (.int 4) .nil))) .nil)))))) .nil)))) (.cons (.set 3 (.tup (.cons (.int 6) (.cons (.tup (.cons (.tup (.cons (.int 0) (.cons (.int 1) .nil))) (.cons (.tup (.cons (.int 0) (.cons (.int 5) .nil))) (.cons (.tup (.cons (.int 1) (.cons (.int 2) .nil))) (.cons (.tup (.cons (.int 2) (.cons (.int 3) .nil))) (.cons (.tup (.cons (.int 3) (.cons (.int 4) .nil))) (.cons (.tup (.cons (.int 4) (.cons (.int 5) .nil))) .nil))))))) .nil)))) (.cons (.ret (.tup (.cons (.var 0) (.cons (.var 1) (.cons (.var 2) (.cons (.tup (.cons (.int 3) (.cons (.tup (.cons (.tup (.cons (.int 0) (.cons (.int 1) .nil))) (.cons (.tup (.cons (.int 0) (.cons (.int 2) .nil))) (.cons (.tup (.cons (.int 1) (.cons (.int 2) .nil))) .nil)))) .nil))) (.cons (.tup (.cons (.int 3) (.cons (.tup .nil) .nil))) (.cons (.var 3) .nil)))))))) .nil))))
def d__law_known : Df := ⟨4, 0, b__law_known⟩
/-- 26 _law_pairs: n found one other -/
def b__law_pairs : Ss := (.cons (.setO 1 (.lst .nil)) (.cons (.for (.nm 2) (.rng (.cons (.var 0) .nil)) (.cons (.for (.nm 3) (.rng (.cons (.bin .add (.var 2) (.int 1)) (.cons (.var 0) .nil))) (.cons (.app 1 (.tup (.cons (.var 2) (.cons (.var 3) .nil)))) .nil)) .nil)) (.cons (.frz 1) (.cons (.ret (.var 1)) .nil))))
def d__law_pairs : Df := ⟨4, 1, b__law_pairs⟩
/-- 27 _law_against: web_so pair -/
def b__law_against : Ss := (.cons (.ret (.tup (.cons (.idx (.var 0) (.int 0)) (.cons (.bi .tuple (.cons (.lc [1] (.nm 1) (.seq (.cal 26 (.cons (.idx (.var 0) (.int 0)) .nil))) (.so (.cmp .notin (.var 1) (.idx (.var 0) (.int 1)))) (.var 1)) .nil)) .nil)))) .nil)
def d__law_against : Df := ⟨2, 1, b__law_against⟩
/-- 28 _law_web: deck n way some ties_so web_so size row pair at -/
def b__law_web : Ss := (.cons (.par [(2, false), (3, false)] (.cons (.cal 22 (.cons (.var 0) (.cons (.int 4) .nil))) (.cons (.cal 26 (.cons (.var 1) .nil)) .nil))) (.cons (.set 4 (.lc [8] (.nm 8) (.seq (.var 3)) (.so (.cmp .eq (.cal 22 (.cons (.var 0) (.cons (.int 2) .nil))) (.int 0))) (.var 8))) (.cons (.ifs (.an (.cmp .gt (.var 2) (.int 1)) (.cmp .gt (.var 1) (.int 4))) (.cons (.set 6 (.bin .add (.int 5) (.cal 22 (.cons (.var 0) (.cons (.bin .sub (.var 1) (.int 4)) .nil))))) (.cons (.set 7 (.bin .add (.lc [9] (.nm 9) (.rng (.cons (.bin .sub (.var 6) (.int 1)) .nil)) .no (.tup (.cons (.var 9) (.cons (.bin .add (.var 9) (.int 1)) .nil)))) (.lst (.cons (.tup (.cons (.int 0) (.cons (.bin .sub (.var 6) (.int 1)) .nil))) .nil)))) (.cons (.set 4 (.bin .add (.var 7) (.lc [8] (.nm 8) (.seq (.var 3)) (.so (.an (.cmp .ge (.idx (.var 8) (.int 1)) (.var 6)) (.cmp .eq (.cal 22 (.cons (.var 0) (.cons (.int 2) .nil))) (.int 0)))) (.var 8)))) (.cons (.ifs (.cmp .eq (.cal 22 (.cons (.var 0) (.cons (.int 2) .nil))) (.int 0)) (.cons (.set 4 (.bin .add (.var 4) (.lst (.cons (.idx (.var 3) (.cal 22 (.cons (.var 0) (.cons (.bi .len (.cons (.var 3) .nil)) .nil)))) .nil)))) .nil) .nil) .nil)))) .nil) (.cons (.set 5 (.tup (.cons (.var 1) (.cons (.bi .tuple (.cons (.set (.var 4)) .nil)) .nil)))) (.cons (.ret (.ite (.cmp .eq (.var 2) (.int 3)) (.cal 27 (.cons (.var 5) .nil)) (.var 5))) .nil)))))
def d__law_web : Df := ⟨10, 2, b__law_web⟩
/-- 29 _law_lots: n found place row -/
def b__law_lots : Ss := (.cons (.set 1 (.lst .nil)) (.cons (.for (.nm 2) (.rng (.cons (.bin .sub (.var 0) (.int 1)) (.cons (.neg (.int 1)) (.cons (.neg (.int 1)) .nil)))) (.cons (.set 1 (.bin .add (.bin .add (.lst (.cons (.tup (.cons (.var 2) .nil)) .nil)) (.lc [3] (.nm 3) (.seq (.var 1)) .no (.bin .add (.tup (.cons (.var 2) .nil)) (.var 3)))) (.var 1))) .nil)) (.cons (.ret (.var 1)) .nil)))
def d__law_lots : Df := ⟨4, 1, b__law_lots⟩
/-- 30 _law_within: web_so row tie -/
def b__law_within : Ss := (.cons (.ret (.lc [2] (.nm 2) (.seq (.idx (.var 0) (.int 1))) (.so (.an (.cmp .in (.idx (.var 2) (.int 0)) (.var 1)) (.cmp .in (.idx (.var 2) (.int 1)) (.var 1)))) (.var 2))) .nil)
def d__law_within : Df := ⟨3, 2, b__law_within⟩
/-- 31 _law_degrees: ties_so row place tie -/
def b__law_degrees : Ss := (.cons (.ret (.lc [2] (.nm 2) (.seq (.var 1)) .no (.bi .len (.cons (.lc [3] (.nm 3) (.seq (.var 0)) (.so (.cmp .in (.var 2) (.var 3))) (.var 3)) .nil)))) .nil)
def d__law_degrees : Df := ⟨4, 2, b__law_degrees⟩
/-- 32 _law_led: ties_so first found more some one other place -/
def b__law_led : Ss := (.cons (.par [(2, false), (3, false)] (.cons (.lst (.cons (.var 1) .nil)) (.cons (.bl true) .nil))) (.cons (.whl (.var 3) (.cons (.setO 4 (.lst .nil)) (.cons (.for (.tp [5, 6]) (.seq (.var 0)) (.cons (.ifs (.cmp .in (.idx (.var 2) (.neg (.int 1))) (.tup (.cons (.var 5) (.cons (.var 6) .nil)))) (.cons (.app 4 (.ite (.cmp .eq (.var 5) (.idx (.var 2) (.neg (.int 1)))) (.var 6) (.var 5))) .nil) .nil) .nil)) (.cons (.frz 4) (.cons (.set 4 (.bi .sorted (.cons (.lc [7] (.nm 7) (.seq (.var 4)) (.so (.cmp .notin (.var 7) (.var 2))) (.var 7)) .nil))) (.cons (.frz 4) (.cons (.set 3 (.cmp .ne (.var 4) (.lst .nil))) (.cons (.frz 4) (.cons (.set 2 (.bin .add (.var 2) (.sl (.var 4) .no (.so (.int 1))))) .nil))))))))) (.cons (.ret (.var 2)) .nil)))
def d__law_led : Df := ⟨8, 2, b__law_led⟩
/-- 33 _law_holes: web_so found row ties_so led_so size -/
def b__law_holes : Ss := (.cons (.setO 1 (.lst .nil)) (.cons (.for (.nm 2) (.seq (.cal 29 (.cons (.idx (.var 0) (.int 0)) .nil))) (.cons (.set 3 (.cal 30 (.cons (.var 0) (.cons (.var 2) .nil)))) (.cons (.ifs (.an (.cmp .gt (.bi .len (.cons (.var 2) .nil)) (.int 4)) (.cmp .eq (.cal 31 (.cons (.var 3) (.cons (.var 2) .nil))) (.bin .mul (.lst (.cons (.int 2) .nil)) (.bi .len (.cons (.var 2) .nil))))) (.cons (.set 4 (.cal 32 (.cons (.var 3) (.cons (.idx (.var 2) (.int 0)) .nil)))) (.cons (.ifs (.cmp .eq (.bi .len (.cons (.var 4) .nil)) (.bi .len (.cons (.var 2) .nil))) (.cons (.app 1 (.tup (.cons (.bi .len (.cons (.var 2) .nil)) (.cons (.bi .tuple (.cons (.var 4) .nil)) .nil)))) .nil) .nil) .nil)) .nil) .nil))) (.cons (.frz 1) (.cons (.ret (.lc [5, 2] (.tp [5, 2]) (.seq (.bi .sorted (.cons (.var 1) .nil))) .no (.var 2))) .nil))))
def d__law_holes : Df := ⟨6, 1, b__law_holes⟩
/-- 34 _law_calm: web_so -/
def b__law_calm : Ss := (.cons (.ret (.an (.cmp .eq (.cal 33 (.cons (.var 0) .nil)) (.lst .nil)) (.cmp .eq (.cal 33 (.cons (.cal 27 (.cons (.var 0) .nil)) .nil)) (.lst .nil)))) .nil)
def d__law_calm : Df := ⟨1, 1, b__law_calm⟩
/-- 35 _law_lots_of: pairs_so many found turn longer_v row last pair -/
def b__law_lots_of : Ss := (.cons (.set 2 (.lst (.cons (.tup .nil) .nil))) (.cons (.for (.nm 3) (.rng (.cons (.var 1) .nil)) (.cons (.set 4 (.lst .nil)) (.cons (.for (.nm 5) (.seq (.var 2)) (.cons (.set 6 (.ite (.cmp .ne (.var 5) (.tup .nil)) (.idx (.var 5) (.neg (.int 1))) (.tup (.cons (.neg (.int 1)) (.cons (.neg (.int 1)) .nil))))) (.cons (.set 4 (.bin .add (.var 4) (.lc [7] (.nm 7) (.seq (.var 0)) (.so (.cmp .gt (.var 7) (.var 6))) (.bin .add (.var 5) (.tup (.cons (.var 7) .nil)))))) .nil))) (.cons (.set 2 (.var 4)) .nil)))) (.cons (.ret (.var 2)) .nil)))
def d__law_lots_of : Df := ⟨8, 2, b__law_lots_of⟩
/-- 36 _law_first: web_so struck pairs_so many row ties_so tie -/
def b__law_first : Ss := (.cons (.set 2 (.ite (.var 1) (.idx (.var 0) (.int 1)) (.idx (.cal 27 (.cons (.var 0) .nil)) (.int 1)))) (.cons (.for (.nm 3) (.rng (.cons (.bin .add (.bi .len (.cons (.var 2) .nil)) (.int 1)) .nil)) (.cons (.for (.nm 4) (.seq (.cal 35 (.cons (.var 2) (.cons (.var 3) .nil)))) (.cons (.set 5 (.ite (.var 1) (.lc [6] (.nm 6) (.seq (.idx (.var 0) (.int 1))) (.so (.cmp .notin (.var 6) (.var 4))) (.var 6)) (.bi .list (.cons (.bin .add (.idx (.var 0) (.int 1)) (.var 4)) .nil)))) (.cons (.ifs (.cal 34 (.cons (.tup (.cons (.idx (.var 0) (.int 0)) (.cons (.bi .tuple (.cons (.bi .sorted (.cons (.var 5) .nil)) .nil)) .nil))) .nil)) (.cons (.ret (.var 4)) .nil) .nil) .nil))) .nil)) (.cons (.ret .non) .nil)))
def d__law_first : Df := ⟨7, 2, b__law_first⟩
/-- 37 law: script cell p s c k e h wheel deck n call_so web_so told one -/
def b_law : Ss := (.cons (.for (.nm 1) (.seq (.sl (.bin .add (.lst (.cons (.int 0) .nil)) (.var 0)) .no (.so (.int 6)))) (.cons (.set 9 (.cal 21 (.cons (.var 1) (.cons (.int 9) .nil)))) (.cons (.for (.nm 10) (.seq (.lst (.cons (.bin .add (.int 1) (.cal 22 (.cons (.var 9) (.cons (.int 5) .nil)))) (.cons (.int 6) .nil)))) (.cons (.set 12 (.cal 28 (.cons (.var 9) (.cons (.var 10) .nil)))) (.cons (.set 13 (.lst (.cons (.cal 19 (.cons (.var 12) .nil)) (.cons (.cal 20 (.cons (.var 12) .nil)) .nil)))) (.cons (.ifs (.nt (.cal 24 (.cons (.var 13) (.cons (.lst (.cons (.cal 36 (.cons (.var 12) (.cons (.bl true) .nil))) (.cons (.cal 36 (.cons (.var 12) (.cons (.bl false) .nil))) .nil))) .nil)))) (.cons (.ret (.bl false)) .nil) .nil) .nil)))) (.cons (.for (.nm 11) (.seq (.tup (.cons (.gfn 19) (.cons (.gfn 20) .nil)))) (.cons (.ifs (.cmp .ne (.trl (.clv 11 (.cons (.tup (.cons (.int 7) (.cons (.tup .nil) .nil))) .nil))) (.tup (.cons (.str "many +") (.cons (.int 6) .nil)))) (.cons (.ret (.bl false)) .nil) .nil) (.cons (.ifs (.cmp .ne (.trl (.clv 11 (.cons (.tup (.cons (.int 8) (.cons (.tup .nil) .nil))) .nil))) (.str "web +")) (.cons (.ret (.bl false)) .nil) .nil) .nil))) .nil)))) (.cons (.unp [2, 3, 4, 5, 6, 7] (.cal 25 .nil)) (.cons (.ifs (.cmp .ne (.lc [14] (.nm 14) (.seq (.tup (.cons (.var 4) (.cons (.var 7) (.cons (.var 2) .nil))))) .no (.cal 19 (.cons (.var 14) .nil))) (.lst (.cons (.tup (.cons (.tup (.cons (.int 0) (.cons (.int 1) .nil))) .nil)) (.cons (.tup (.cons (.tup (.cons (.int 0) (.cons (.int 1) .nil))) .nil)) (.cons (.tup .nil) .nil))))) (.cons (.ret (.bl false)) .nil) .nil) (.cons (.ifs (.cmp .ne (.lc [14] (.nm 14) (.seq (.tup (.cons (.var 4) (.cons (.var 7) (.cons (.var 2) (.cons (.cal 13 (.cons (.var 7) .nil)) .nil)))))) .no (.cal 20 (.cons (.var 14) .nil))) (.lst (.cons (.tup (.cons (.tup (.cons (.int 0) (.cons (.int 2) .nil))) .nil)) (.cons (.tup (.cons (.tup (.cons (.int 0) (.cons (.int 3) .nil))) .nil)) (.cons (.tup .nil) (.cons (.tup (.cons (.tup (.cons (.int 0) (.cons (.int 1) .nil))) .nil)) .nil)))))) (.cons (.ret (.bl false)) .nil) .nil) (.cons (.set 8 (.tup (.cons (.int 6) (.cons (.bi .tuple (.cons (.bi .sorted (.cons (.bin .add (.idx (.var 4) (.int 1)) (.tup (.cons (.tup (.cons (.int 0) (.cons (.int 5) .nil))) (.cons (.tup (.cons (.int 1) (.cons (.int 5) .nil))) (.cons (.tup (.cons (.int 2) (.cons (.int 5) .nil))) (.cons (.tup (.cons (.int 3) (.cons (.int 5) .nil))) (.cons (.tup (.cons (.int 4) (.cons (.int 5) .nil))) .nil))))))) .nil)) .nil)) .nil)))) (.cons (.ret (.an (.cmp .eq (.cal 19 (.cons (.var 8) .nil)) (.tup (.cons (.tup (.cons (.int 0) (.cons (.int 1) .nil))) .nil))) (.cmp .eq (.cal 20 (.cons (.var 8) .nil)) (.tup (.cons (.tup (.cons (.int 0) (.cons (.int 2) .nil))) .nil))))) .nil))))))
def d_law : Df := ⟨15, 1, b_law⟩
/-- -1 _law_kin: e sorts labels label good -/
def b__law_kin : Ss := (.cons (.set 1 (.lst (.cons (.isx (.var 0) 0) (.cons (.isx (.var 0) 1) (.cons (.isx (.var 0) 2) .nil))))) (.cons (.set 1 (.bin .add (.var 1) (.lst (.cons (.isx (.var 0) 3) (.cons (.isx (.var 0) 4) .nil))))) (.cons (.set 1 (.bin .add (.var 1) (.lst (.cons (.isx (.var 0) 5) (.cons (.isx (.var 0) 6) (.cons (.isx (.var 0) 7) .nil)))))) (.cons (.set 1 (.bin .add (.var 1) (.lst (.cons (.isx (.var 0) 8) (.cons (.isx (.var 0) 9) (.cons (.isx (.var 0) 10) .nil)))))) (.cons (.set 1 (.bin .add (.var 1) (.lst (.cons (.isx (.var 0) 11) (.cons (.isv (.var 0)) .nil))))) (.cons (.set 2 (.str "web place tie weights cover pairs text notcalm notfold unlike undo many +")) (.cons (.ret (.jn " " (.lc [3, 4] (.tp [3, 4]) (.zip (.spl (.var 2) " ") (.var 1)) (.so (.var 4)) (.var 3)))) .nil)))))))
def d__law_kin : Df := ⟨5, 1, b__law_kin⟩
def ds : List Df := [d_is_within, d_is_pair, d_are_pairs, d_is_web_value, d_need_web, d_all_pairs, d_are_tied, d_near, d_counter, d_longer, d_holes_of, d_first_of, d_calm, d_against, d_chosen, d_with_ties, d_without_ties, d_first_calm, d_need_small, d_least_struck, d_least_put, d__law_deck, d__law_pick, d__law_sort, d__law_same, d__law_known, d__law_pairs, d__law_against, d__law_web, d__law_lots, d__law_within, d__law_degrees, d__law_led, d__law_holes, d__law_calm, d__law_lots_of, d__law_first, d_law]
end Tw.K09
end
section
/-! The evaluator's plain side: what the operations say of numbers, pairs, rows, webs. -/
namespace Tw
open PySem
abbrev dN (k : Nat) : D := .int (k : Int)
def dP (p : Nat × Nat) : D := .tup [.int (p.1 : Int), .int (p.2 : Int)]
def dR (r : List Nat) : D := .tup (r.map dN)
def dW (n : Nat) (T : List (Nat × Nat)) : D := .tup [.int (n : Int), .tup (T.map dP)]
/-! ### ordered things -/
mutual
theorem ord_py : ∀ x : D, ordD x = true → ∃ p, x.py = some p ∧ p.canLay0 = true ∧ p.depth = dep x
  | .int i, _ => ⟨.int i, rfl, rfl, rfl⟩
  | .tup xs, h => by
    unfold ordD at h
    obtain ⟨ps, e1, e2, e3⟩ := ord_pyL xs h
    refine ⟨.tuple ps, by unfold D.py; rw [e1]; rfl, e2, ?_⟩
    show PyData.depthAll ps + 1 = dep (.tup xs)
    rw [e3]; rfl
  | .non, h => by cases h
  | .bl _, h => by cases h
  | .str _, h => by cases h
  | .lst _, h => by cases h
  | .box _, h => by cases h
  | .fn _, h => by cases h
theorem ord_pyL : ∀ xs : List D, ordL xs = true → ∃ ps, pyAll xs = some ps ∧ PyData.canLayAll0 ps = true ∧ PyData.depthAll ps = depL xs
  | [], _ => ⟨[], rfl, rfl, rfl⟩
  | x :: xs, h => by
    unfold ordL at h
    obtain ⟨h1, h2⟩ := oa h
    obtain ⟨p, a1, a2, a3⟩ := ord_py x h1
    obtain ⟨ps, b1, b2, b3⟩ := ord_pyL xs h2
    refine ⟨p :: ps, by unfold pyAll; rw [a1, b1], by unfold PyData.canLayAll0; rw [a2, b2]; rfl, ?_⟩
    unfold PyData.depthAll depL
    rw [a3, b3]
end
theorem shaped_ord {x : D} {p : PyData} (h : ordD x = true) (hd : dep x ≤ 60) (e : x.py = some p) : SeqAt.shaped p = true := by
  obtain ⟨q, a1, a2, a3⟩ := ord_py x h
  rw [e] at a1; cases a1
  unfold SeqAt.shaped
  rw [a2, a3, decide_eq_true (by omega)]; rfl
theorem shaped_ordL {xs : List D} {ps : List PyData} (h : ordL xs = true) (hd : depL xs ≤ 60) (e : pyAll xs = some ps) : SeqAt.shaped (.list ps) = true ∧ SeqAt.shaped (.tuple ps) = true := by
  obtain ⟨q, a1, a2, a3⟩ := ord_pyL xs h
  rw [e] at a1; cases a1
  have z : PyData.depthAll ps + 1 ≤ 64 := by omega
  constructor
  · unfold SeqAt.shaped
    show (PyData.canLayAll0 ps && decide (PyData.depthAll ps + 1 ≤ 64)) = true
    rw [a2, decide_eq_true z]; rfl
  · unfold SeqAt.shaped
    show (PyData.canLayAll0 ps && decide (PyData.depthAll ps + 1 ≤ 64)) = true
    rw [a2, decide_eq_true z]; rfl
theorem eqD_of {x y : D} (hx : ordD x = true) (hy : ordD y = true) (dx : dep x ≤ 60) (dy : dep y ≤ 60) : eqD x y = some (decide (cmpT x y = .eq)) := by
  obtain ⟨p, a1, a2, a3⟩ := ord_py x hx
  obtain ⟨q, b1, b2, b3⟩ := ord_py y hy
  unfold eqD
  rw [a1, b1]
  show (if (SeqAt.shaped p && SeqAt.shaped q) = true then _ else _) = _
  rw [shaped_ord hx dx a1, shaped_ord hy dy b1]
  show some (PyData.eqv p q) = _
  rw [eqv_ord x y p q hx hy a1 b1]
theorem any_ord : ∀ {ys : List D} {x : D} {p : PyData} {qs : List PyData}, ordL ys = true → ordD x = true → x.py = some p → pyAll ys = some qs → (qs.any fun z => PyData.eqv z p) = ys.any fun y => decide (cmpT y x = .eq)
  | [], x, p, qs, _, _, _, e => by cases e; rfl
  | y :: ys, x, p, qs, h, hx, e1, e2 => by
    unfold pyAll at e2
    split at e2 <;> cases e2
    rename_i q qs f1 f2
    unfold ordL at h
    obtain ⟨h1, h2⟩ := oa h
    rw [List.any_cons, List.any_cons, any_ord h2 hx e1 f2, eqv_ord y x q p h1 hx f1 e1]
theorem inD_of {x : D} {ys : List D} (hx : ordD x = true) (hy : ordL ys = true) (dx : dep x ≤ 60) (dy : depL ys ≤ 60) : inD x ys = some (ys.any fun y => decide (cmpT y x = .eq)) := by
  obtain ⟨p, a1, a2, a3⟩ := ord_py x hx
  obtain ⟨qs, b1, b2, b3⟩ := ord_pyL ys hy
  unfold inD
  rw [a1, b1]
  show (if (SeqAt.shaped p && SeqAt.shaped (.list qs)) = true then _ else _) = _
  rw [shaped_ord hx dx a1, (shaped_ordL hy dy b1).1]
  show some (qs.any fun z => PyData.eqv z p) = _
  rw [any_ord hy hx a1 b1]
/-- two lists of ordered things are equal -/
theorem eqL_of {xs ys : List D} (hx : ordL xs = true) (hy : ordL ys = true) (dx : depL xs ≤ 60) (dy : depL ys ≤ 60) : eqD (.lst xs) (.lst ys) = some (decide (cmpTL xs ys = .eq)) := by
  obtain ⟨ps, a1, a2, a3⟩ := ord_pyL xs hx
  obtain ⟨qs, b1, b2, b3⟩ := ord_pyL ys hy
  have e1 : (D.lst xs).py = some (.list ps) := by unfold D.py; rw [a1]; rfl
  have e2 : (D.lst ys).py = some (.list qs) := by unfold D.py; rw [b1]; rfl
  unfold eqD
  rw [e1, e2]
  show (if (SeqAt.shaped (.list ps) && SeqAt.shaped (.list qs)) = true then _ else _) = _
  rw [(shaped_ordL hx dx a1).1, (shaped_ordL hy dy b1).1]
  show some (PyData.eqvAll ps qs) = _
  rw [eqv_ordL xs ys ps qs hx hy a1 b1]
/-! ### numbers, pairs, rows -/
theorem ordL_map {α : Type} {f : α → D} (h : ∀ a, ordD (f a) = true) : ∀ l : List α, ordL (l.map f) = true
  | [] => rfl
  | a :: l => by
    show (ordD (f a) && ordL (l.map f)) = true
    rw [h a, ordL_map h l]; rfl
theorem depL_map {α : Type} {f : α → D} {n : Nat} (h : ∀ a, dep (f a) ≤ n) : ∀ l : List α, depL (l.map f) ≤ n
  | [] => Nat.zero_le _
  | a :: l => by
    show max (dep (f a)) (depL (l.map f)) ≤ n
    have := h a
    have := depL_map h l
    omega
theorem ord_dN (a : Nat) : ordD (dN a) = true := rfl
theorem ord_dP (p : Nat × Nat) : ordD (dP p) = true := rfl
theorem ord_dR (r : List Nat) : ordD (dR r) = true := ordL_map ord_dN r
theorem dep_dN (a : Nat) : dep (dN a) = 0 := rfl
theorem dep_dP (p : Nat × Nat) : dep (dP p) = 1 := rfl
theorem dep_dR (r : List Nat) : dep (dR r) ≤ 1 := by
  show depL (r.map dN) + 1 ≤ 1
  have := depL_map (f := dN) (n := 0) (fun a => Nat.le_refl _) r
  omega
theorem cmp_int {i j : Int} : decide (cmpT (.int i) (.int j) = .eq) = decide (i = j) := by
  unfold cmpT
  by_cases h1 : i < j
  · rw [if_pos h1]; rw [decide_eq_false (show ¬ i = j by omega)]; rfl
  · by_cases h2 : j < i
    · rw [if_neg h1, if_pos h2, decide_eq_false (show ¬ i = j by omega)]; rfl
    · rw [if_neg h1, if_neg h2, decide_eq_true (show i = j by omega)]; rfl
theorem cmp_inj {α : Type} [DecidableEq α] {f : α → D} (ho : ∀ a, ordD (f a) = true) (hf : ∀ a b, f a = f b → a = b) (a b : α) : decide (cmpT (f a) (f b) = .eq) = decide (a = b) := by
  by_cases h : a = b
  · subst h; rw [cmpT_refl]; simp
  · rw [decide_eq_false h]
    exact decide_eq_false fun e => h (hf a b (cmpT_eq _ _ (ho a) (ho b) e))
theorem in_map {α : Type} [DecidableEq α] {f : α → D} (ho : ∀ a, ordD (f a) = true) (hd : ∀ a, dep (f a) ≤ 60) (hf : ∀ a b, f a = f b → a = b) (a : α) (l : List α) : inD (f a) (l.map f) = some (decide (a ∈ l)) := by
  rw [inD_of (ho a) (ordL_map ho l) (hd a) (depL_map hd l)]
  congr 1
  induction l with
  | nil => rfl
  | cons b l ih =>
    rw [List.map_cons, List.any_cons, ih, cmp_inj ho hf b a]
    by_cases h : b = a
    · subst h; simp
    · have h' : ¬ a = b := fun e => h e.symm
      simp [h, h']
theorem dN_inj (a b : Nat) (h : dN a = dN b) : a = b := by
  have : (a : Int) = b := D.int.inj h
  omega
theorem dP_inj (a b : Nat × Nat) (h : dP a = dP b) : a = b := by
  have e := D.tup.inj h
  injection e with e1 e2
  injection e2 with e3 _
  have := D.int.inj e1
  have := D.int.inj e3
  exact Prod.ext (by omega) (by omega)
theorem mapN_inj : ∀ {a b : List Nat}, a.map dN = b.map dN → a = b
  | [], [], _ => rfl
  | [], _ :: _, h => by cases h
  | _ :: _, [], h => by cases h
  | x :: a, y :: b, h => by
    injection h with h1 h2
    rw [dN_inj x y h1, mapN_inj h2]
theorem dR_inj (a b : List Nat) (h : dR a = dR b) : a = b := mapN_inj (D.tup.inj h)
theorem in_dN (a : Nat) (l : List Nat) : inD (.int (a : Int)) (l.map dN) = some (decide (a ∈ l)) := in_map ord_dN (fun a => by rw [dep_dN]; omega) dN_inj a l
theorem in_dP (p : Nat × Nat) (l : List (Nat × Nat)) : inD (dP p) (l.map dP) = some (decide (p ∈ l)) := (in_map ord_dP (fun a => by rw [dep_dP]; omega) dP_inj p l).trans (congrArg some (by by_cases h : p ∈ l <;> simp [h]))
theorem eq_int (i j : Int) : eqD (.int i) (.int j) = some (decide (i = j)) := by
  rw [eqD_of rfl rfl (by unfold dep; omega) (by unfold dep; omega), cmp_int]
theorem map_inj {α : Type} {f : α → D} (hf : ∀ a b, f a = f b → a = b) : ∀ {l m : List α}, l.map f = m.map f → l = m
  | [], [], _ => rfl
  | [], _ :: _, h => by cases h
  | _ :: _, [], h => by cases h
  | x :: a, y :: b, h => by
    injection h with h1 h2
    rw [hf x y h1, map_inj hf h2]
theorem eq_map {α : Type} [DecidableEq α] {f : α → D} (ho : ∀ a, ordD (f a) = true) (hd : ∀ a, dep (f a) ≤ 60) (hf : ∀ a b, f a = f b → a = b) (l m : List α) : eqD (.lst (l.map f)) (.lst (m.map f)) = some (decide (l = m)) := by
  rw [eqL_of (ordL_map ho l) (ordL_map ho m) (depL_map hd l) (depL_map hd m)]
  congr 1
  by_cases h : l = m
  · subst h; rw [cmpTL_refl]; simp
  · rw [decide_eq_false h]
    refine decide_eq_false fun e => h ?_
    have e := cmpTL_eq _ _ (ordL_map ho l) (ordL_map ho m) e
    exact map_inj hf e
/-! ### loops -/
theorem lc_pure {f : D → S → Out (Option D)} {s : S} (o : D → Option D) : ∀ {ds : List D}, (∀ d ∈ ds, f d s = .ok (o d) s) → lcLoop f ds s = .ok (ds.filterMap o) s
  | [], _ => rfl
  | d :: ds, h => by
    unfold lcLoop
    rw [h d (.head _), bnd_ok, lc_pure o fun z hz => h z (.tail _ hz), bnd_ok, List.filterMap_cons]
    cases o d <;> rfl
/-- over things of one kind: each that passes the test, turned -/
theorem lc_map {α : Type} {f : D → S → Out (Option D)} {s : S} (g : α → D) (p : α → Bool) (h : α → D) {l : List α} (hf : ∀ a ∈ l, f (g a) s = .ok (if p a then some (h a) else none) s) : lcLoop f (l.map g) s = .ok ((l.filter p).map h) s := by
  induction l with
  | nil => rfl
  | cons a l ih =>
    rw [List.map_cons]
    unfold lcLoop
    rw [hf a (.head _), bnd_ok, ih fun b hb => hf b (.tail _ hb), bnd_ok, List.filter_cons]
    cases p a <;> simp
theorem for_pure {α : Type} {f : D → Rho → S → Out Fl} {s : S} (g : α → D) (I : List α → Rho) : ∀ {l done : List α}, (∀ a done, f (g a) (I done) s = .ok (.nx (I (done ++ [a]))) s) → forLoop f (l.map g) (I done) s = .ok (.nx (I (done ++ l))) s
  | [], done, _ => by rw [List.append_nil]; rfl
  | a :: l, done, h => by
    rw [List.map_cons]
    unfold forLoop
    rw [h a done, bnd_ok]
    show forLoop f (l.map g) (I (done ++ [a])) s = _
    rw [for_pure g I h, List.append_assoc]; rfl
theorem for_inv {α : Type} {f : D → Rho → S → Out Fl} {s : S} (g : α → D) (P : List α → Rho → Prop) (whole : List α) (step : ∀ a done rest r, whole = done ++ a :: rest → P done r → ∃ r', f (g a) r s = .ok (.nx r') s ∧ P (done ++ [a]) r') :
    ∀ (l done : List α) (r : Rho), whole = done ++ l → P done r → ∃ r', forLoop f (l.map g) r s = .ok (.nx r') s ∧ P whole r'
  | [], done, r, e, h => ⟨r, rfl, by rw [e, List.append_nil]; exact h⟩
  | a :: l, done, r, e, h => by
    obtain ⟨r1, e1, h1⟩ := step a done l r e h
    obtain ⟨r2, e2, h2⟩ := for_inv g P whole step l (done ++ [a]) r1 (by rw [e, List.append_assoc]; rfl) h1
    refine ⟨r2, ?_, h2⟩
    rw [List.map_cons]
    unfold forLoop
    rw [e1, bnd_ok]
    exact e2
theorem bnd_bnd {α β γ : Type} (m : Out α) (f : α → S → Out β) (g : β → S → Out γ) : bnd (bnd m f) g = bnd m fun a s => bnd (f a s) g := by
  cases m <;> rfl
theorem for_run {α β : Type} {f : D → Rho → S → Out Fl} {s : S} {r : Rho} {k : Fl → S → Out β} {R : Out β} (g : α → D) (P : List α → Rho → Prop) {whole : List α} (h0 : P [] r)
    (step : ∀ a done rest r, whole = done ++ a :: rest → P done r → ∃ r', f (g a) r s = .ok (.nx r') s ∧ P (done ++ [a]) r') (fin : ∀ r', P whole r' → k (.nx r') s = R) : bnd (forLoop f (whole.map g) r s) k = R := by
  obtain ⟨r', e, h⟩ := for_inv g P whole step whole [] r rfl h0
  rw [e, bnd_ok]
  exact fin r' h
theorem for_ex {α : Type} {f : D → Rho → S → Out Fl} {s : S} {r : Rho} {k : Fl → S → Out Fl} {Q : Rho → Prop} (g : α → D) (P : List α → Rho → Prop) {whole : List α} (h0 : P [] r)
    (step : ∀ a done rest r, whole = done ++ a :: rest → P done r → ∃ r', f (g a) r s = .ok (.nx r') s ∧ P (done ++ [a]) r') (fin : ∀ r1, P whole r1 → ∃ r', k (.nx r1) s = .ok (.nx r') s ∧ Q r') : ∃ r', bnd (forLoop f (whole.map g) r s) k = .ok (.nx r') s ∧ Q r' := by
  obtain ⟨r1, e, h⟩ := for_inv g P whole step whole [] r rfl h0
  obtain ⟨r', e2, q⟩ := fin r1 h
  exact ⟨r', by rw [e, bnd_ok]; exact e2, q⟩
theorem lst_of {xs : List D} : lstOf (.lst xs) = some xs := rfl
theorem lc_run {α β : Type} {f : D → S → Out (Option D)} {s : S} {k : List D → S → Out β} {R : Out β} (g : α → D) (p : α → Bool) (h : α → D) {l : List α} (hf : ∀ a ∈ l, f (g a) s = .ok (if p a then some (h a) else none) s) (fin : k ((l.filter p).map h) s = R) : bnd (lcLoop f (l.map g) s) k = R := by
  rw [lc_map g p h hf, bnd_ok]
  exact fin
theorem lc_runA {α β : Type} {f : D → S → Out (Option D)} {s : S} {k : List D → S → Out β} {R : Out β} (g : α → D) (h : α → D) {l : List α} (hf : ∀ a ∈ l, f (g a) s = .ok (some (h a)) s) (fin : k (l.map h) s = R) : bnd (lcLoop f (l.map g) s) k = R := by
  refine lc_run g (fun _ => true) h (fun a ha => (hf a ha).trans (by simp)) ?_
  have e : l.filter (fun _ => true) = l := List.filter_eq_self.mpr fun _ _ => rfl
  rw [e]; exact fin
theorem lc_mapA {α : Type} {f : D → S → Out (Option D)} {s : S} (g : α → D) (h : α → D) {l : List α} (hf : ∀ a ∈ l, f (g a) s = .ok (some (h a)) s) : lcLoop f (l.map g) s = .ok (l.map h) s := by
  have z := lc_run (k := fun ys s2 => Out.ok ys s2) (R := .ok (l.map h) s) g (fun _ => true) h (fun a ha => (hf a ha).trans (by simp)) (by
    have e : l.filter (fun _ => true) = l := List.filter_eq_self.mpr fun _ _ => rfl
    rw [e])
  revert z
  cases lcLoop f (l.map g) s <;> exact fun z => z
theorem any_map {α : Type} (f : α → Bool) (l : List α) : (l.map f).any id = l.any f := by rw [List.any_map]; rfl
theorem all_map {α : Type} (f : α → Bool) (l : List α) : (l.map f).all id = l.all f := by rw [List.all_map]; rfl
theorem flat_len {α β : Type} {f : α → List β} {m : Nat} : ∀ {l : List α}, (∀ a ∈ l, (f a).length ≤ m) → (l.flatMap f).length ≤ l.length * m
  | [], _ => by simp
  | a :: l, h => by
    rw [List.flatMap_cons, List.length_append, List.length_cons, Nat.add_mul, Nat.one_mul]
    have := h a (.head _)
    have := flat_len (l := l) fun b hb => h b (.tail _ hb)
    omega
def prs (n : Nat) : List (Nat × Nat) := (List.range n).flatMap fun a => (List.range (n - (a + 1))).map fun k => (a, a + 1 + k)
theorem range_int (n : Nat) (h : n ≤ big) : rangeD [.int (n : Int)] = some ((List.range n).map dN) := by
  show (if (n : Int).natAbs ≤ big then some ((List.range (n : Int).toNat).map fun k => D.int (k : Nat)) else none) = _
  rw [if_pos (by simpa using h)]
  simp
theorem range_int2 (a b : Nat) (h : a ≤ big) (h' : b ≤ big) : rangeD [.int (a : Int), .int (b : Int)] = some ((List.range (b - a)).map fun k => dN (a + k)) := by
  show (if (a : Int).natAbs ≤ big ∧ (b : Int).natAbs ≤ big then some ((List.range ((b : Int) - (a : Int)).toNat).map fun k => D.int ((a : Int) + (k : Nat))) else none) = _
  rw [if_pos ⟨by simpa using h, by simpa using h'⟩]
  have : ((b : Int) - (a : Int)).toNat = b - a := by omega
  rw [this]
  simp
theorem cal_at {ds : List Df} {k f : Nat} {d : Df} {xs : List D} {s : S} (h : ds[f]? = some d) (hl : xs.length = d.p) : calD ds (k + 1) f xs s = bnd (exSs (calF ds k) d.body k (startR d xs) s) fun fl s1 => match fl with
    | .rt x => .ok x s1
    | .nx _ => .ok .non s1 := by
  rw [calD_succ, h]
  show (if xs.length = d.p then _ else _) = _
  rw [if_pos hl] <;> rfl
/-! ### places -/
theorem ixD_nat {xs : List D} {i : Nat} (h : i < xs.length) : ixD xs (i : Int) = xs[i]? := by
  unfold ixD L2.atI L2.ixN
  rw [if_pos (by omega), if_pos (by omega)]
  simp
theorem ixD_0 {x : D} {xs : List D} : ixD (x :: xs) 0 = some x := ixD_nat (i := 0) (by simp)
theorem ixD_1 {x y : D} {xs : List D} : ixD (x :: y :: xs) 1 = some y := ixD_nat (i := 1) (by simp)
theorem ixD_2 {x y z : D} {xs : List D} : ixD (x :: y :: z :: xs) 2 = some z := ixD_nat (i := 2) (by simp)
theorem ixD_last {xs : List D} (h : xs ≠ []) : ixD xs (-1) = xs.getLast? := by
  have hl : 0 < xs.length := by
    cases xs with
    | nil => exact (h rfl).elim
    | cons x xs => simp
  unfold ixD L2.atI L2.ixN
  rw [if_neg (by omega), if_pos (by omega), List.getLast?_eq_getElem?]
  show xs[((-1 : Int) + (xs.length : Int)).toNat]? = _
  congr 1
  omega
theorem cmpD_in {x : D} {ys : List D} : cmpD .in x (.tup ys) = inD x ys := rfl
theorem cmpD_inL {x : D} {ys : List D} : cmpD .in x (.lst ys) = inD x ys := rfl
theorem cmpD_not {x : D} {ys : List D} : cmpD .notin x (.tup ys) = (inD x ys).map (!·) := rfl
theorem cmpD_notL {x : D} {ys : List D} : cmpD .notin x (.lst ys) = (inD x ys).map (!·) := rfl
theorem cmpD_eq {x y : D} : cmpD .eq x y = eqD x y := rfl
theorem cmpD_ne {x y : D} : cmpD .ne x y = (eqD x y).map (!·) := rfl
theorem cmpD_lt {i j : Int} : cmpD .lt (.int i) (.int j) = some (decide (i < j)) := by
  show (if dep (.int i) ≤ 64 then ltD (.int i) (.int j) else none) = _
  rw [if_pos (by unfold dep; omega)]; unfold ltD ltG; rfl
theorem cmpD_gt {i j : Int} : cmpD .gt (.int i) (.int j) = some (decide (j < i)) := by
  show (if dep (.int i) ≤ 64 then ltG false (.int i) (.int j) else none) = _
  rw [if_pos (by unfold dep; omega)]; unfold ltG; rfl
theorem cmpD_le {i j : Int} : cmpD .le (.int i) (.int j) = some (decide (i ≤ j)) := rfl
theorem cmpD_ge {i j : Int} : cmpD .ge (.int i) (.int j) = some (decide (j ≤ i)) := rfl
theorem big0 : (0 ≤ big) = True := eq_true (by unfold big; omega)
theorem big1 : (1 ≤ big) = True := eq_true (by unfold big; omega)
theorem big2 : (2 ≤ big) = True := eq_true (by unfold big; omega)
theorem big3 : (3 ≤ big) = True := eq_true (by unfold big; omega)
theorem big4 : (4 ≤ big) = True := eq_true (by unfold big; omega)
theorem big5 : (5 ≤ big) = True := eq_true (by unfold big; omega)
theorem big6 : (6 ≤ big) = True := eq_true (by unfold big; omega)
theorem big7 : (7 ≤ big) = True := eq_true (by unfold big; omega)
theorem big8 : (8 ≤ big) = True := eq_true (by unfold big; omega)
theorem big9 : (9 ≤ big) = True := eq_true (by unfold big; omega)
theorem big10 : (10 ≤ big) = True := eq_true (by unfold big; omega)
theorem big11 : (11 ≤ big) = True := eq_true (by unfold big; omega)
theorem getR_0 {d : D} {r : Rho} : getR (.v d :: r) 0 = some d := rfl
theorem getR_s {x : Sl} {r : Rho} {i : Nat} : getR (x :: r) (i + 1) = getR r i := rfl
theorem idx_tup {xs : List D} {i : Int} {s : S} : idxD (.tup xs) (.int i) s = ixD xs i := rfl
theorem idx_lst {xs : List D} {i : Int} {s : S} : idxD (.lst xs) (.int i) s = ixD xs i := rfl
theorem idx_dW0 {n : Nat} {T : List (Nat × Nat)} {s : S} : idxD (dW n T) (.int 0) s = some (.int (n : Int)) := ixD_0
theorem idx_dW1 {n : Nat} {T : List (Nat × Nat)} {s : S} : idxD (dW n T) (.int 1) s = some (.tup (T.map dP)) := ixD_1
theorem bi_len_t {xs : List D} {s : S} : biD .len [.tup xs] s = some (.int (xs.length : Nat)) := rfl
theorem bi_len_l {xs : List D} {s : S} : biD .len [.lst xs] s = some (.int (xs.length : Nat)) := rfl
theorem bi_all {xs : List D} {s : S} : biD .all [.lst xs] s = (blsD xs).map fun bs => .bl (bs.all id) := rfl
theorem bi_any {xs : List D} {s : S} : biD .any [.lst xs] s = (blsD xs).map fun bs => .bl (bs.any id) := rfl
theorem bi_min2 {i j : Int} {s : S} : biD .min2 [.int i, .int j] s = some (.int (if j < i then j else i)) := rfl
theorem bi_max2 {i j : Int} {s : S} : biD .max2 [.int i, .int j] s = some (.int (if j > i then j else i)) := rfl
theorem bi_tuple_l {xs : List D} {s : S} : biD .tuple [.lst xs] s = some (.tup xs) := rfl
theorem bi_tuple_t {xs : List D} {s : S} : biD .tuple [.tup xs] s = some (.tup xs) := rfl
theorem bi_list_l {xs : List D} {s : S} : biD .list [.lst xs] s = some (.lst xs) := rfl
theorem bi_list_t {xs : List D} {s : S} : biD .list [.tup xs] s = some (.lst xs) := rfl
theorem bi_int {i : Int} {s : S} : biD .int [.int i] s = some (.int i) := rfl
theorem bi_srt_l {xs : List D} {s : S} : biD .sorted [.lst xs] s = if srtOk xs then some (.lst (sortD xs)) else none := rfl
theorem bi_srt_t {xs : List D} {s : S} : biD .sorted [.tup xs] s = if srtOk xs then some (.lst (sortD xs)) else none := rfl
theorem bi_sset {xs : List D} {s : S} : biD .sset [.lst xs] s = ssetD xs := rfl
theorem bi_ssetT {xs : List D} {s : S} : biD .sset [.tup xs] s = ssetD xs := rfl
theorem chkB_bl {b : Bool} : chkB (.bl b) = some b := rfl
theorem seq_t {xs : List D} : seqD (.tup xs) = some xs := rfl
theorem seq_l {xs : List D} : seqD (.lst xs) = some xs := rfl
theorem b_add {i j : Int} : binD .add (.int i) (.int j) = some (.int (i + j)) := rfl
theorem b_sub {i j : Int} : binD .sub (.int i) (.int j) = some (.int (i - j)) := rfl
theorem b_addL {xs ys : List D} (h : xs.length + ys.length ≤ big) : binD .add (.lst xs) (.lst ys) = some (.lst (xs ++ ys)) := if_pos h
theorem b_addT {xs ys : List D} (h : xs.length + ys.length ≤ big) : binD .add (.tup xs) (.tup ys) = some (.tup (xs ++ ys)) := if_pos h
theorem ty_non {s : S} : tyD .non s = some .non := rfl
theorem ty_bl {b : Bool} {s : S} : tyD (.bl b) s = some .bool := rfl
theorem ty_int {i : Int} {s : S} : tyD (.int i) s = some .int := rfl
theorem ty_str {x : Str} {s : S} : tyD (.str x) s = some .str := rfl
theorem ty_tup {xs : List D} {s : S} : tyD (.tup xs) s = some .tuple := rfl
theorem ty_lst {xs : List D} {s : S} : tyD (.lst xs) s = some .list := rfl
theorem ty_dW {n : Nat} {T : List (Nat × Nat)} {s : S} : tyD (dW n T) s = some .tuple := rfl
theorem blsD_map {α : Type} (f : α → Bool) : ∀ l : List α, blsD (l.map fun a => .bl (f a)) = some (l.map f)
  | [] => rfl
  | a :: l => by
    rw [List.map_cons]
    unfold blsD
    rw [blsD_map f l]; rfl
theorem dP_eq (a b : Nat) : D.tup [.int (a : Int), .int (b : Int)] = dP (a, b) := rfl
theorem min_int (a b : Nat) : (if (b : Int) < (a : Int) then (b : Int) else (a : Int)) = ((min a b : Nat) : Int) := by
  split <;> omega
theorem max_int (a b : Nat) : (if (b : Int) > (a : Int) then (b : Int) else (a : Int)) = ((max a b : Nat) : Int) := by
  split <;> omega
def adj (T : List (Nat × Nat)) (a b : Nat) : Bool := decide ((min a b, max a b) ∈ T)
/-! ### webs -/
theorem prs_big {n : Nat} (hn : n ≤ 7) : (prs n).length ≤ big := by
  have h := flat_len (l := List.range n) (f := fun a => (List.range (n - (a + 1))).map fun k => (a, a + 1 + k)) (m := 7) fun a _ => by simp; omega
  rw [List.length_range] at h
  unfold prs big
  omega
def lastN (r : List Nat) : Nat := r.getLast?.getD 0
theorem last_map {r : List Nat} (h : r ≠ []) : ixD (r.map dN) (-1) = some (dN (lastN r)) := by
  rw [ixD_last (by simpa using h), List.getLast?_map]
  unfold lastN
  cases r with
  | nil => exact (h rfl).elim
  | cons a r => simp [List.getLast?_cons]
theorem last_dR {r : List Nat} (h : r ≠ []) {s : S} : idxD (dR r) (.int (-1)) s = some (dN (lastN r)) := last_map h
/-- what lies between the ends -/
def midN (r : List Nat) : List Nat := (r.drop 1).take (r.length - 2)
theorem cut_mid (r : List Nat) : cutD (r.map dN) (some 1) (some (-1)) = (midN r).map dN := by
  unfold cutD midN
  have e1 : HT.sIx (r.map dN).length 0 (some 1) = min 1 r.length := by rw [List.length_map]; rfl
  have e2 : HT.sIx (r.map dN).length (r.map dN).length (some (-1)) = r.length - 1 := by
    rw [List.length_map]
    show ((-1 : Int) + (r.length : Int)).toNat = _
    omega
  rw [e1, e2]
  cases r with
  | nil => rfl
  | cons a r =>
    have : min 1 (a :: r).length = 1 := by simp
    rw [this, ← List.map_drop, ← List.map_take]
    congr 2
def ext (n : Nat) (T : List (Nat × Nat)) (row : List Nat) : List (List Nat) :=
  ((((List.range n).filter fun b => adj T (lastN row) b).filter fun b => decide (b ∉ row)).filter fun b => !((midN row).any fun c => adj T b c)).map fun b => row ++ [b]
theorem slT {xs : List D} {lo hi : Option Int} : slD (.tup xs) lo hi = some (.tup (cutD xs lo hi)) := rfl
theorem slL {xs : List D} {lo hi : Option Int} : slD (.lst xs) lo hi = some (.lst (cutD xs lo hi)) := rfl
theorem mid_len (r : List Nat) : (midN r).length ≤ r.length := by unfold midN; simp; omega
theorem filt_len {α : Type} (p : α → Bool) (l : List α) : (l.filter p).length ≤ l.length := List.length_filter_le p l
theorem ext_len {n : Nat} {T : List (Nat × Nat)} (r : List Nat) : (ext n T r).length ≤ n := by
  unfold ext
  rw [List.length_map]
  refine Nat.le_trans (filt_len _ _) (Nat.le_trans (filt_len _ _) (Nat.le_trans (filt_len _ _) ?_))
  rw [List.length_range]; exact Nat.le_refl _
theorem add_rows {a : Nat} {r : List Nat} : binD .add (.tup (r.map dN)) (.tup [dN a]) = if r.length + 1 ≤ big then some (dR (r ++ [a])) else none := by
  show (if (r.map dN).length + 1 ≤ big then some (D.tup (r.map dN ++ [dN a])) else none) = _
  rw [List.length_map]
  unfold dR
  rw [List.map_append]; rfl
def headN (r : List Nat) : Nat := r.headD 0
def sndN (r : List Nat) : Nat := r.getD 1 0
def insR (x : List Nat) : List (List Nat) → List (List Nat)
  | [] => [x]
  | y :: ys => if ltB (dR y) (dR x) then y :: insR x ys else x :: y :: ys
def srtR : List (List Nat) → List (List Nat)
  | [] => []
  | x :: xs => insR x (srtR xs)
theorem insD_dR (x : List Nat) : ∀ l : List (List Nat), insD (dR x) (l.map dR) = (insR x l).map dR
  | [] => rfl
  | y :: ys => by
    rw [List.map_cons]
    unfold insD insR
    cases h : ltB (dR y) (dR x) with
    | true => rw [if_pos rfl, if_pos rfl, List.map_cons, insD_dR x ys]
    | false => rw [if_neg Bool.false_ne_true, if_neg Bool.false_ne_true]; rfl
theorem sortD_dR : ∀ l : List (List Nat), sortD (l.map dR) = (srtR l).map dR
  | [] => rfl
  | x :: xs => by
    rw [List.map_cons]
    unfold sortD srtR
    rw [sortD_dR xs, insD_dR]
theorem ltL_ints : ∀ a b : List Nat, (ltL true (a.map dN) (b.map dN)).isSome = true
  | [], [] => rfl
  | [], _ :: _ => rfl
  | _ :: _, [] => rfl
  | x :: a, y :: b => by
    rw [List.map_cons, List.map_cons]
    unfold ltL
    have ih := ltL_ints a b
    rw [eq_int]
    by_cases h : (x : Int) = y
    · rw [decide_eq_true h]; exact ih
    · rw [decide_eq_false h]
      unfold ltG
      obtain ⟨c, e⟩ := Option.isSome_iff_exists.mp ih
      show (match (some (decide ((x : Int) < y))), ltL true (a.map dN) (b.map dN) with | some b, some _ => some b | _, _ => none).isSome = true
      rw [e]; rfl
theorem srt_rows {l : List (List Nat)} (h : ∀ r ∈ l, r ≠ []) (hl : l.length ≤ big) : srtOk (l.map dR) = true := by
  unfold srtOk cmpAll
  have h1 : ((l.map dR).all fun x => ordD x && decide (dep x ≤ 64) && (l.map dR).all fun y => (ltD x y).isSome) = true := by
    rw [List.all_eq_true]
    intro x hx
    obtain ⟨r, hr, rfl⟩ := List.mem_map.mp hx
    rw [ord_dR, decide_eq_true (by have := dep_dR r; omega), Bool.true_and, Bool.true_and, List.all_eq_true]
    intro y hy
    obtain ⟨q, hq, rfl⟩ := List.mem_map.mp hy
    show (ltG true (.tup (r.map dN)) (.tup (q.map dN))).isSome = true
    unfold ltG
    exact ltL_ints r q
  have h2 : (l.map dR).all headI = true := by
    rw [List.all_eq_true]
    intro x hx
    obtain ⟨r, hr, rfl⟩ := List.mem_map.mp hx
    cases r with
    | nil => exact (h _ hr rfl).elim
    | cons a r => rfl
  rw [h1, h2, decide_eq_true (by rw [List.length_map]; exact hl)]
  simp
theorem srtR_len : ∀ l : List (List Nat), (srtR l).length = l.length
  | [] => rfl
  | x :: xs => by
    have ins : ∀ l : List (List Nat), (insR x l).length = l.length + 1 := by
      intro l
      induction l with
      | nil => rfl
      | cons y ys ih =>
        unfold insR
        split
        · rw [List.length_cons, ih]; rfl
        · rfl
    unfold srtR
    rw [ins, srtR_len xs]; rfl
/-- one size's turn -/
def hStep (n : Nat) (T : List (Nat × Nat)) (st : List (List Nat) × List (List Nat)) (k : Nat) : List (List Nat) × List (List Nat) :=
  ((if 5 ≤ k + 2 then st.1 ++ srtR (((st.2.flatMap (ext n T)).filter fun r => decide (headN r < lastN r)).filter fun r => adj T (headN r) (lastN r) && decide (sndN r < lastN r)) else st.1),
    ((st.2.flatMap (ext n T)).filter fun r => decide (headN r < lastN r)).filter fun r => decide (k + 2 = 2) || !adj T (headN r) (lastN r))
def hFold (n : Nat) (T : List (Nat × Nat)) (done : List Nat) : List (List Nat) × List (List Nat) := done.foldl (hStep n T) ([], (List.range n).map fun a => [a])
def holesL (n : Nat) (T : List (Nat × Nat)) : List (List Nat) := (hFold n T (List.range (n + 1 - 2))).1
theorem range_mid {n a : Nat} {done rest : List Nat} (e : List.range n = done ++ a :: rest) : a = done.length := by
  have h : (List.range n)[done.length]? = some a := by rw [e]; simp
  have hl : done.length < n := by have := congrArg List.length e; simp at this; omega
  rw [List.getElem?_range hl] at h
  exact (Option.some.inj h).symm
theorem idx0_dR {r : List Nat} (h : r ≠ []) {s : S} : idxD (dR r) (.int 0) s = some (dN (headN r)) := by
  cases r with
  | nil => exact (h rfl).elim
  | cons a r => exact ixD_0
theorem idx1_dR {r : List Nat} (h : 2 ≤ r.length) {s : S} : idxD (dR r) (.int 1) s = some (dN (sndN r)) := by
  match r, h with
  | a :: b :: r, _ => exact ixD_1
theorem dec_lt (a b : Nat) : decide ((a : Int) < (b : Int)) = decide (a < b) := by simp
theorem dec_le (a b : Nat) : decide ((a : Int) ≤ (b : Int)) = decide (a ≤ b) := by simp
theorem dec_eq (a b : Nat) : decide ((a : Int) = (b : Int)) = decide (a = b) := by
  by_cases h : a = b
  · rw [decide_eq_true h, decide_eq_true (by omega)]
  · rw [decide_eq_false h, decide_eq_false (by omega)]
theorem ext_mem {n : Nat} {T : List (Nat × Nat)} {row r : List Nat} (h : r ∈ ext n T row) : ∃ b, r = row ++ [b] ∧ b < n ∧ adj T (lastN row) b = true ∧ b ∉ row ∧ ∀ c ∈ midN row, adj T b c = false := by
  unfold ext at h
  obtain ⟨b, hb, rfl⟩ := List.mem_map.mp h
  obtain ⟨h1, h2⟩ := List.mem_filter.mp hb
  obtain ⟨h3, h4⟩ := List.mem_filter.mp h1
  obtain ⟨h5, h6⟩ := List.mem_filter.mp h3
  refine ⟨b, rfl, by simpa using h5, h6, of_decide_eq_true h4, fun c hc => ?_⟩
  cases e : adj T b c with
  | false => rfl
  | true =>
    have : ((midN row).any fun c => adj T b c) = true := List.any_eq_true.mpr ⟨c, hc, e⟩
    rw [this] at h2; cases h2
theorem hFold_snoc {n : Nat} {T : List (Nat × Nat)} {done : List Nat} {a : Nat} : hFold n T (done ++ [a]) = hStep n T (hFold n T done) a := by
  unfold hFold; rw [List.foldl_append]; rfl
theorem is_ii : ([Ty.int].any fun u => subTy .int u) = true := rfl
theorem is_ib : ([Ty.bool].any fun u => subTy .int u) = false := rfl
theorem is_tt : ([Ty.tuple].any fun u => subTy .tuple u) = true := rfl
theorem blsD_two {a b : Bool} : blsD [.bl a, .bl b] = some [a, b] := rfl
theorem two_two : decide (((2 : Nat) : Int) = 2) = true := rfl
/-- the order of pairs -/
def ltP (p q : Nat × Nat) : Prop := p.1 < q.1 ∨ (p.1 = q.1 ∧ p.2 < q.2)
theorem ltB_dP {p q : Nat × Nat} (h : ltP p q) : ltB (dP p) (dP q) = true := by
  refine decide_eq_true ?_
  show cmpTL [.int (p.1 : Int), .int (p.2 : Int)] [.int (q.1 : Int), .int (q.2 : Int)] = .lt
  unfold cmpTL
  unfold cmpT
  rcases h with h | ⟨h1, h2⟩
  · rw [if_pos (by omega)]
  · rw [if_neg (by omega), if_neg (by omega)]
    show cmpTL [.int (p.2 : Int)] [.int (q.2 : Int)] = .lt
    unfold cmpTL
    unfold cmpT
    rw [if_pos (by omega)]
theorem cmp_dP {p q : Nat × Nat} (h : ltP p q) : cmpD .lt (dP p) (dP q) = some true := by
  show (if dep (dP p) ≤ 64 then ltD (dP p) (dP q) else none) = _
  rw [if_pos (by rw [dep_dP]; omega)]
  have z := ltL_ints [p.1, p.2] [q.1, q.2]
  obtain ⟨c, e⟩ := Option.isSome_iff_exists.mp z
  have e : ltD (dP p) (dP q) = some c := by
    show ltG true (.tup _) (.tup _) = _
    unfold ltG; exact e
  rw [e, ltD_ord _ _ c (ord_dP p) (ord_dP q) e, ltB_dP h]
structure GoodW (n : Nat) (T : List (Nat × Nat)) : Prop where
  h0 : 1 ≤ n
  h7 : n ≤ 7
  srt : T.Pairwise ltP
  bd : ∀ p ∈ T, p.1 < p.2 ∧ p.2 < n
  len : T.length ≤ 100
theorem zip_drop {T : List (Nat × Nat)} (h : T.Pairwise ltP) : ∀ q ∈ T.zip (T.drop 1), ltP q.1 q.2 := by
  induction T with
  | nil => intro q hq; cases hq
  | cons a T ih =>
    intro q hq
    obtain ⟨h1, h2⟩ := List.pairwise_cons.mp h
    cases T with
    | nil => cases hq
    | cons b T =>
      rcases List.mem_cons.mp (show q ∈ (a, b) :: (b :: T).zip T from hq) with e | e
      · rw [e]; exact h1 b (.head _)
      · exact ih h2 q e
theorem zipD_T (T : List (Nat × Nat)) : zipD (.tup (T.map dP)) (.tup (cutD (T.map dP) (some 1) none)) = some ((T.zip (T.drop 1)).map fun q => .tup [dP q.1, dP q.2]) := by
  have e : cutD (T.map dP) (some 1) none = (T.drop 1).map dP := by
    unfold cutD
    have e1 : HT.sIx (T.map dP).length 0 (some 1) = min 1 T.length := by rw [List.length_map]; rfl
    have e2 : HT.sIx (T.map dP).length (T.map dP).length none = T.length := by rw [List.length_map]; rfl
    rw [e1, e2, List.map_drop]
    cases T with
    | nil => rfl
    | cons a T =>
      have : min 1 (a :: T).length = 1 := by simp
      rw [this]
      rw [List.take_of_length_le (by simp)]
  rw [e]
  show some (List.zipWith (fun x y => D.tup [x, y]) (T.map dP) ((T.drop 1).map dP)) = _
  congr 1
  clear e
  generalize T.drop 1 = U
  induction T generalizing U with
  | nil => rfl
  | cons a T ih =>
    cases U with
    | nil => rfl
    | cons b U => simp only [List.map_cons, List.zipWith_cons_cons, List.zip_cons_cons, ih]
theorem eq_nilR {l : List (List Nat)} : eqD (.lst (l.map dR)) (.lst []) = some (decide (l = [])) := eq_map (f := dR) ord_dR (fun r => by have := dep_dR r; omega) dR_inj l []
theorem eq_nilN {l : List Nat} : eqD (.lst (l.map dN)) (.lst []) = some (decide (l = [])) := eq_map (f := dN) ord_dN (fun r => by rw [dep_dN]; omega) dN_inj l []
def cT (n : Nat) (T : List (Nat × Nat)) : List (Nat × Nat) := (prs n).filter fun p => decide (p ∉ T)
def firstD (n : Nat) (T : List (Nat × Nat)) : D := match holesL n T with
  | r :: _ => .tup [.str "hole", dR r]
  | [] => match holesL n (cT n T) with
    | r :: _ => .tup [.str "antihole", dR r]
    | [] => .non
def calmB (n : Nat) (T : List (Nat × Nat)) : Bool := match holesL n T with
  | _ :: _ => false
  | [] => match holesL n (cT n T) with
    | _ :: _ => false
    | [] => true
theorem prs_mem {n : Nat} {p : Nat × Nat} : p ∈ prs n ↔ p.1 < p.2 ∧ p.2 < n := by
  unfold prs
  rw [List.mem_flatMap]
  constructor
  · rintro ⟨a, ha, h⟩
    obtain ⟨k, hk, rfl⟩ := List.mem_map.mp h
    have h1 : a < n := by simpa using ha
    have h2 : k < n - (a + 1) := by simpa using hk
    show a < a + 1 + k ∧ a + 1 + k < n
    omega
  · intro h
    refine ⟨p.1, by simp; omega, List.mem_map.mpr ⟨p.2 - (p.1 + 1), by simp; omega, ?_⟩⟩
    exact Prod.ext rfl (show p.1 + 1 + (p.2 - (p.1 + 1)) = p.2 by omega)
theorem prs_srt (n : Nat) : (prs n).Pairwise ltP := by
  unfold prs
  rw [List.flatMap_def]
  refine List.pairwise_flatten.mpr ⟨fun l hl => ?_, ?_⟩
  · obtain ⟨a, _, rfl⟩ := List.mem_map.mp hl
    exact List.pairwise_map.mpr (List.Pairwise.imp (fun {x y} h => .inr ⟨rfl, show a + 1 + x < a + 1 + y by omega⟩) List.pairwise_lt_range)
  · refine List.pairwise_map.mpr (List.Pairwise.imp (fun {a b} h x hx y hy => ?_) List.pairwise_lt_range)
    obtain ⟨i, _, rfl⟩ := List.mem_map.mp hx
    obtain ⟨j, _, rfl⟩ := List.mem_map.mp hy
    exact .inl h
theorem prs_len {n : Nat} (hn : n ≤ 7) : (prs n).length ≤ 49 := by
  have h := flat_len (l := List.range n) (f := fun a => (List.range (n - (a + 1))).map fun k => (a, a + 1 + k)) (m := 7) fun a _ => by simp; omega
  rw [List.length_range] at h
  unfold prs
  omega
theorem good_cT {n : Nat} {T : List (Nat × Nat)} (G : GoodW n T) : GoodW n (cT n T) where
  h0 := G.h0
  h7 := G.h7
  srt := (prs_srt n).filter _
  bd := fun p hp => prs_mem.mp (List.mem_filter.mp hp).1
  len := by
    have := prs_len G.h7
    have := filt_len (fun p => decide (p ∉ T)) (prs n)
    unfold cT; omega
/-! ### the deck -/
theorem idx_box {j : Nat} {xs : List D} {i : Int} {s : S} (h : s[j]? = some (.lst xs)) : idxD (.box j) (.int i) s = ixD xs i := by
  show (match s[j]? with
    | some (.lst xs) => ixD xs i
    | _ => none) = _
  rw [h]
theorem b_mod {i j : Int} (h : j ≠ 0) : binD .mod (.int i) (.int j) = some (.int (i.fmod j)) := if_pos h
theorem b_fdiv {i j : Int} (h : j ≠ 0 ∧ j.natAbs < 1073741824) : binD .fdiv (.int i) (.int j) = some (.int (i.fdiv j)) := if_pos h
theorem b_mul {i j : Int} (h : i.natAbs < 2 ^ 60) : binD .mul (.int i) (.int j) = some (.int (i * j)) := if_pos h
theorem b_pow {i j : Int} (h : 0 ≤ j ∧ j ≤ 1000 ∧ i.natAbs < 2 ^ 64) : binD .pow (.int i) (.int j) = some (.int (i ^ j.toNat)) := if_pos h
/-- a deck of at most m turns so far -/
def Dk (j : Nat) (s : S) (m : Nat) : Prop := ∃ a b c : Int, s[j]? = some (.lst [.int a, .int b, .int c]) ∧ 0 ≤ b ∧ b < 2147483579 ∧ 0 ≤ c ∧ c ≤ m
theorem Dk.mono {j : Nat} {s : S} {m m' : Nat} (h : Dk j s m) (l : m ≤ m') : Dk j s m' := by
  obtain ⟨a, b, c, h1, h2, h3, h4, h5⟩ := h
  exact ⟨a, b, c, h1, h2, h3, h4, by omega⟩
theorem set_at {j : Nat} {s : S} {x y : Bx} (h : s[j]? = some x) : (s.set j y)[j]? = some y := List.getElem?_set_self (List.getElem?_eq_some_iff.mp h).1
theorem fmod_lt {i j : Int} (h : 0 < j) : 0 ≤ i.fmod j ∧ i.fmod j < j := ⟨Int.fmod_nonneg_of_pos i h, Int.fmod_lt_of_pos i h⟩
theorem ixN0 : L2.ixN 3 0 = some 0 := rfl
theorem ixN2 : L2.ixN 3 2 = some 2 := rfl
theorem app_at {s : S} {x : Bx} : (s ++ [x])[s.length]? = some x := by
  rw [List.getElem?_append_right (Nat.le_refl _)]; simp
/-! ### lists by places -/
def lotsF : List Nat → List (List Nat)
  | [] => []
  | p :: ps => [p] :: (lotsF ps).map (fun r => p :: r) ++ lotsF ps
/-! ### pairs, each once -/
def keyP (p : Nat × Nat) : List Int := [(p.1 : Int), (p.2 : Int)]
def unP (k : List Int) : Nat × Nat := ((k.getD 0 0).toNat, (k.getD 1 0).toNat)
theorem unP_key (p : Nat × Nat) : unP (keyP p) = p := rfl
theorem rowOf_key (p : Nat × Nat) : rowOf (keyP p) = dP p := rfl
theorem keysD_dP : ∀ L : List (Nat × Nat), keysD (L.map dP) = some (L.map keyP)
  | [] => rfl
  | p :: L => by
    rw [List.map_cons]
    unfold keysD
    rw [keysD_dP L]; rfl
theorem insU_len (k : List Int) : ∀ ks : List (List Int), (insU k ks).length ≤ ks.length + 1
  | [] => Nat.le_refl _
  | y :: ys => by
    unfold insU
    split
    · simp
    · split
      · simp
      · have := insU_len k ys
        rw [List.length_cons, List.length_cons]; omega
theorem sortU_len : ∀ ks : List (List Int), (sortU ks).length ≤ ks.length
  | [] => Nat.le_refl _
  | k :: ks => by
    have := insU_len k (sortU ks)
    have := sortU_len ks
    show (insU k (sortU ks)).length ≤ ks.length + 1
    omega
theorem code2 (x y : Int) : TS.code 64 [x, y] = x * 64 + y := by
  show x * 64 ^ 1 + (y * 64 ^ 0 + 0) = _
  rw [Int.pow_succ, Int.pow_zero]; omega
theorem sset_pairs {n : Nat} {L : List (Nat × Nat)} (hn : n ≤ 7) (h : ∀ p ∈ L, p.1 < p.2 ∧ p.2 < n) (hl : L.length < 64) : ∃ T : List (Nat × Nat), ssetD (L.map dP) = some (.lst (T.map dP)) ∧ T.Pairwise ltP ∧ (∀ p, p ∈ T ↔ p ∈ L) ∧ T.length ≤ L.length := by
  have ok : OkKs 2 (L.map keyP) := fun k hk => by
    obtain ⟨p, hp, rfl⟩ := List.mem_map.mp hk
    obtain ⟨h1, h2⟩ := h p hp
    refine ⟨rfl, fun m hm => ?_⟩
    rcases List.mem_cons.mp hm with e | e
    · omega
    · have e : m = (p.2 : Int) := by simpa using e
      omega
  have e0 : ssetD (L.map dP) = some (.lst ((sortU (L.map keyP)).map rowOf)) := by
    unfold ssetD
    rw [keysD_dP]
    cases L with
    | nil => rfl
    | cons p L =>
      rw [List.map_cons] at ok ⊢
      dsimp only
      rw [if_pos]
      refine ⟨by rw [List.length_cons, List.length_map]; simpa using hl, Nat.zero_lt_succ _, List.all_eq_true.mpr fun q hq => ?_⟩
      obtain ⟨a1, a2⟩ := ok q hq
      rw [Bool.and_eq_true]
      refine ⟨decide_eq_true (a1.trans rfl), List.all_eq_true.mpr fun m hm => ?_⟩
      obtain ⟨b1, b2⟩ := a2 m hm
      rw [decide_eq_true b1, decide_eq_true b2]; rfl
  have hk : ∀ k ∈ sortU (L.map keyP), keyP (unP k) = k ∧ unP k ∈ L := fun k hk => by
    obtain ⟨p, hp, rfl⟩ := List.mem_map.mp (sortU_mem.mp hk)
    exact ⟨by rw [unP_key], by rw [unP_key]; exact hp⟩
  refine ⟨(sortU (L.map keyP)).map unP, ?_, ?_, fun p => ?_, ?_⟩
  · rw [e0, List.map_map]
    congr 2
    refine List.map_congr_left fun k hk' => ?_
    show rowOf k = dP (unP k)
    rw [← rowOf_key, (hk k hk').1]
  · refine List.pairwise_map.mpr (List.Pairwise.imp_of_mem (fun {a b} ha hb z => ?_) (sortU_sr ok))
    have q1 := hk a ha
    have q2 := hk b hb
    rw [← q1.1, ← q2.1] at z
    obtain ⟨r1, r2⟩ := h _ q1.2
    obtain ⟨r3, r4⟩ := h _ q2.2
    generalize unP a = x at z r1 r2
    generalize unP b = y at z r3 r4
    have e1 : TS.code 64 (keyP x) = (x.1 : Int) * 64 + (x.2 : Int) := code2 _ _
    have e2 : TS.code 64 (keyP y) = (y.1 : Int) * 64 + (y.2 : Int) := code2 _ _
    rw [e1, e2] at z
    unfold ltP
    omega
  · constructor
    · intro hp
      obtain ⟨k, hk1, rfl⟩ := List.mem_map.mp hp
      exact (hk k hk1).2
    · intro hp
      exact List.mem_map.mpr ⟨keyP p, sortU_mem.mpr (List.mem_map_of_mem hp), unP_key p⟩
  · rw [List.length_map]
    have := sortU_len (L.map keyP)
    rw [List.length_map] at this
    exact this
/-- a list by turns of the deck -/
theorem lc_dk {j : Nat} {f : D → S → Out (Option D)} {bd : Nat} (hf : ∀ (p : Nat × Nat) (s : S) (m : Nat), Dk j s m → m ≤ bd → ∃ (b : Bool) (s' : S), f (dP p) s = .ok (if b then some (dP p) else none) s' ∧ Dk j s' (m + 1)) :
    ∀ (L : List (Nat × Nat)) (s : S) (m : Nat), Dk j s m → m + L.length ≤ bd → ∃ (U : List (Nat × Nat)) (s' : S), lcLoop f (L.map dP) s = .ok (U.map dP) s' ∧ (∀ p ∈ U, p ∈ L) ∧ U.length ≤ L.length ∧ Dk j s' (m + L.length)
  | [], s, m, h, _ => ⟨[], s, rfl, (fun p hp => nomatch hp), Nat.le_refl _, h⟩
  | p :: L, s, m, h, hb => by
    rw [List.length_cons] at hb
    obtain ⟨b, s1, e1, h1⟩ := hf p s m h (by omega)
    obtain ⟨U, s2, e2, h2, h3, h4⟩ := lc_dk hf L s1 (m + 1) h1 (by omega)
    have e : ∀ (o : Option D), f (dP p) s = .ok o s1 → lcLoop f ((p :: L).map dP) s = .ok (match o with | some y => y :: U.map dP | none => U.map dP) s2 := fun o eo => by
      rw [List.map_cons]
      unfold lcLoop
      rw [eo, bnd_ok, e2, bnd_ok]
      first | done | (cases o <;> rfl)
    have h4' : Dk j s2 (m + (p :: L).length) := h4.mono (by rw [List.length_cons]; omega)
    cases b with
    | true => exact ⟨p :: U, s2, e _ e1, fun q hq => by
        rcases List.mem_cons.mp hq with z | z
        · rw [z]; exact .head _
        · exact .tail _ (h2 q z), by rw [List.length_cons, List.length_cons]; omega, h4'⟩
    | false => exact ⟨U, s2, e _ e1, fun q hq => .tail _ (h2 q hq), by rw [List.length_cons]; omega, h4'⟩
theorem lc_dk_run {β : Type} {j : Nat} {f : D → S → Out (Option D)} {k : List D → S → Out β} (bd : Nat) (G : Out β → Prop) {L : List (Nat × Nat)} {s : S} {m : Nat} (h : Dk j s m) (hb : m + L.length ≤ bd)
    (hf : ∀ (p : Nat × Nat) (s : S) (m : Nat), Dk j s m → m ≤ bd → ∃ (b : Bool) (s' : S), f (dP p) s = .ok (if b then some (dP p) else none) s' ∧ Dk j s' (m + 1))
    (fin : ∀ (U : List (Nat × Nat)) (s' : S), (∀ p ∈ U, p ∈ L) → U.length ≤ L.length → Dk j s' (m + L.length) → G (k (U.map dP) s')) : G (bnd (lcLoop f (L.map dP) s) k) := by
  obtain ⟨U, s', e, h1, h2, h3⟩ := lc_dk hf L s m h hb
  rw [e, bnd_ok]
  exact fin U s' h1 h2 h3
theorem ixD_dP {L : List (Nat × Nat)} {v : Nat} (h : v < L.length) : ixD (L.map dP) (v : Int) = some (dP L[v]) := by
  rw [ixD_nat (by simpa using h), List.getElem?_map, List.getElem?_eq_getElem h]; rfl
/-! ### the law's own look -/
theorem lots_len : ∀ l : List Nat, (lotsF l).length + 1 = 2 ^ l.length
  | [] => rfl
  | p :: ps => by
    have := lots_len ps
    show ([p] :: ((lotsF ps).map (fun r => p :: r) ++ lotsF ps)).length + 1 = 2 ^ (ps.length + 1)
    rw [List.length_cons, List.length_append, List.length_map, Nat.pow_succ]
    omega
theorem lots_mem {r : List Nat} : ∀ {l : List Nat}, r ∈ lotsF l ↔ r.Sublist l ∧ r ≠ []
  | [] => by simp [lotsF]
  | p :: ps => by
    have ih := fun r => @lots_mem r ps
    show r ∈ [p] :: ((lotsF ps).map (fun r => p :: r) ++ lotsF ps) ↔ _
    rw [List.mem_cons, List.mem_append, List.mem_map]
    constructor
    · rintro (h | ⟨q, hq, rfl⟩ | h)
      · rw [h]; exact ⟨List.Sublist.cons_cons p (List.nil_sublist ps), by simp⟩
      · exact ⟨List.Sublist.cons_cons p ((ih q).mp hq).1, by simp⟩
      · exact ⟨List.Sublist.cons p ((ih r).mp h).1, ((ih r).mp h).2⟩
    · rintro ⟨h, hn⟩
      cases h with
      | cons _ h => exact .inr (.inr ((ih r).mpr ⟨h, hn⟩))
      | cons_cons _ h =>
        rename_i q
        cases q with
        | nil => exact .inl rfl
        | cons a q => exact .inr (.inl ⟨_, (ih _).mpr ⟨h, by simp⟩, rfl⟩)
theorem range3 {n : Nat} (h0 : 1 ≤ n) (h : n ≤ 7) : rangeD [.int ((n : Int) - 1), .int (-1), .int (-1)] = some ((List.range n).map fun k => dN (n - 1 - k)) := by
  show (if ((n : Int) - 1).natAbs ≤ big ∧ (-1 : Int).natAbs ≤ big then some ((List.range ((n : Int) - 1 - (-1)).toNat).map fun k => D.int ((n : Int) - 1 + (k : Nat) * (-1))) else none) = _
  rw [if_pos ⟨by unfold big; omega, by unfold big; omega⟩]
  have e : ((n : Int) - 1 - (-1)).toNat = n := by omega
  rw [e]
  congr 1
  refine List.map_congr_left fun k hk => ?_
  have hk : k < n := by simpa using hk
  show D.int _ = D.int _
  congr 1
  omega
theorem b_addR {p : Nat} {r : List Nat} (h : r.length ≤ 100) : binD .add (.tup [.int (p : Int)]) (dR r) = some (dR (p :: r)) := by
  show (if [D.int (p : Int)].length + (r.map dN).length ≤ big then some (D.tup ([D.int (p : Int)] ++ r.map dN)) else none) = _
  rw [if_pos (by rw [List.length_map, List.length_singleton]; unfold big; omega)]; rfl
def inB (row : List Nat) (p : Nat × Nat) : Bool := decide (p.1 ∈ row) && decide (p.2 ∈ row)
def atB (x : Nat) (p : Nat × Nat) : Bool := decide (x ∈ [p.1, p.2])
theorem in_two {a : Nat} {p : Nat × Nat} : inD (.int (a : Int)) [.int (p.1 : Int), .int (p.2 : Int)] = some (atB a p) := in_dN a [p.1, p.2]
theorem dP_tup (p : Nat × Nat) : dP p = .tup [.int (p.1 : Int), .int (p.2 : Int)] := rfl
def othN (x : Nat) (p : Nat × Nat) : Nat := if p.1 = x then p.2 else p.1
/-- what is tied to x -/
def nb (U : List (Nat × Nat)) (x : Nat) : List Nat := (U.filter (atB x)).map (othN x)
def insN (x : Nat) : List Nat → List Nat
  | [] => [x]
  | y :: ys => if y < x then y :: insN x ys else x :: y :: ys
def srtN : List Nat → List Nat
  | [] => []
  | x :: xs => insN x (srtN xs)
theorem ltB_dN (a b : Nat) : ltB (dN a) (dN b) = decide (a < b) := by
  unfold ltB cmpT
  by_cases h : a < b
  · rw [if_pos (by omega), decide_eq_true h]; rfl
  · rw [if_neg (by omega), decide_eq_false h]
    split <;> rfl
theorem insD_dN (x : Nat) : ∀ l : List Nat, insD (dN x) (l.map dN) = (insN x l).map dN
  | [] => rfl
  | y :: ys => by
    rw [List.map_cons]
    unfold insD insN
    rw [ltB_dN]
    by_cases h : y < x
    · rw [if_pos (decide_eq_true h), if_pos h, List.map_cons, insD_dN x ys]
    · rw [if_neg (by simpa using h), if_neg h]; rfl
theorem sortD_dN : ∀ l : List Nat, sortD (l.map dN) = (srtN l).map dN
  | [] => rfl
  | x :: xs => by
    rw [List.map_cons]
    unfold sortD srtN
    rw [sortD_dN xs, insD_dN]
theorem srt_nats {l : List Nat} (hl : l.length ≤ big) : srtOk (l.map dN) = true := by
  unfold srtOk cmpAll
  have h1 : ((l.map dN).all fun x => ordD x && decide (dep x ≤ 64) && (l.map dN).all fun y => (ltD x y).isSome) = true := by
    rw [List.all_eq_true]
    intro x hx
    obtain ⟨r, hr, rfl⟩ := List.mem_map.mp hx
    rw [ord_dN, decide_eq_true (by rw [dep_dN]; omega), Bool.true_and, Bool.true_and, List.all_eq_true]
    intro y hy
    obtain ⟨q, hq, rfl⟩ := List.mem_map.mp hy
    show (ltG true (.int _) (.int _)).isSome = true
    unfold ltG; rfl
  have h2 : (l.map dN).all isInt = true := by
    rw [List.all_eq_true]
    intro x hx
    obtain ⟨r, hr, rfl⟩ := List.mem_map.mp hx
    rfl
  rw [h1, h2, decide_eq_true (by rw [List.length_map]; exact hl)]
  simp
theorem insN_mem {x y : Nat} : ∀ {l : List Nat}, y ∈ insN x l ↔ y = x ∨ y ∈ l
  | [] => by simp [insN]
  | z :: l => by
    unfold insN
    split
    · rw [List.mem_cons, insN_mem, List.mem_cons]
      constructor
      · rintro (h | h | h)
        · exact .inr (.inl h)
        · exact .inl h
        · exact .inr (.inr h)
      · rintro (h | h | h)
        · exact .inr (.inl h)
        · exact .inl h
        · exact .inr (.inr h)
    · simp
theorem srtN_mem {y : Nat} : ∀ {l : List Nat}, y ∈ srtN l ↔ y ∈ l
  | [] => by simp [srtN]
  | x :: l => by unfold srtN; rw [insN_mem, srtN_mem, List.mem_cons]
theorem insN_head {x : Nat} : ∀ {l : List Nat}, (∀ y ∈ l, ∀ h ∈ l.head?, h ≤ y) → ∀ y ∈ insN x l, ∀ h ∈ (insN x l).head?, h ≤ y
  | [], _ => by simp [insN]
  | z :: l, hl => by
    unfold insN
    split
    · rename_i hz
      intro y hy h hh
      have : h = z := by simpa using hh.symm
      subst this
      rcases List.mem_cons.mp hy with e | e
      · omega
      · rcases insN_mem.mp e with e | e
        · omega
        · exact hl y (.tail _ e) h rfl
    · rename_i hz
      intro y hy h hh
      have : h = x := by simpa using hh.symm
      subst this
      rcases List.mem_cons.mp hy with e | e
      · omega
      · have := hl y e z rfl
        omega
theorem srtN_head : ∀ {l : List Nat}, ∀ y ∈ srtN l, ∀ h ∈ (srtN l).head?, h ≤ y
  | [], y, hy, _, _ => by cases hy
  | x :: l, y, hy, h, hh => insN_head (fun y hy h hh => srtN_head y hy h hh) y hy h hh
theorem srtN_len : ∀ l : List Nat, (srtN l).length = l.length
  | [] => rfl
  | x :: xs => by
    have ins : ∀ l : List Nat, (insN x l).length = l.length + 1 := by
      intro l
      induction l with
      | nil => rfl
      | cons y ys ih =>
        unfold insN
        split
        · rw [List.length_cons, ih]; rfl
        · rfl
    unfold srtN
    rw [ins, srtN_len xs]; rfl
def nxt (U : List (Nat × Nat)) (f : List Nat) : List Nat := srtN ((nb U (lastN f)).filter fun y => decide (y ∉ f))
def ledF (U : List (Nat × Nat)) : Nat → List Nat → List Nat
  | 0, f => f
  | k + 1, f => match nxt U f with
    | [] => f
    | x :: _ => ledF U k (f ++ [x])
theorem nodup_len {l : List Nat} {n : Nat} (h : l.Nodup) (hl : ∀ x ∈ l, x < n) : l.length ≤ n := by
  have := L2.nat_nodup_len l (List.range n) h fun x hx => by simpa using hl x hx
  rw [List.length_range] at this
  exact this
theorem nodup_full {l : List Nat} {n : Nat} (h : l.Nodup) (hl : ∀ x ∈ l, x < n) (hn : n ≤ l.length) {b : Nat} (hb : b < n) : b ∈ l := by
  refine Classical.byContradiction fun z => ?_
  have := nodup_len (l := b :: l) (n := n) (List.nodup_cons.mpr ⟨z, h⟩) fun x hx => by
    rcases List.mem_cons.mp hx with e | e
    · rw [e]; exact hb
    · exact hl x e
  rw [List.length_cons] at this
  omega
theorem nb_mem {U : List (Nat × Nat)} {x y : Nat} : y ∈ nb U x ↔ ∃ p ∈ U, (p.1 = x ∧ p.2 = y) ∨ (p.1 ≠ x ∧ p.2 = x ∧ p.1 = y) := by
  unfold nb
  rw [List.mem_map]
  constructor
  · rintro ⟨p, hp, e⟩
    obtain ⟨h1, h2⟩ := List.mem_filter.mp hp
    refine ⟨p, h1, ?_⟩
    have h2 : x ∈ [p.1, p.2] := of_decide_eq_true h2
    unfold othN at e
    split at e
    · exact .inl ⟨by assumption, e⟩
    · rename_i z
      have : x = p.1 ∨ x = p.2 := by simpa using h2
      rcases this with q | q
      · exact (z q.symm).elim
      · exact .inr ⟨z, q.symm, e⟩
  · rintro ⟨p, hp, h⟩
    refine ⟨p, List.mem_filter.mpr ⟨hp, ?_⟩, ?_⟩
    · refine decide_eq_true ?_
      rcases h with ⟨h, _⟩ | ⟨_, h, _⟩
      · rw [h]; simp
      · rw [h]; simp
    · unfold othN
      rcases h with ⟨h1, h2⟩ | ⟨h1, h2, h3⟩
      · rw [if_pos h1, h2]
      · rw [if_neg h1, h3]
theorem last_dL {r : List Nat} (h : r ≠ []) {s : S} : idxD (.lst (r.map dN)) (.int (-1)) s = some (dN (lastN r)) := last_map h
theorem cut_one (l : List Nat) : cutD (l.map dN) none (some 1) = (l.take 1).map dN := by
  unfold cutD
  have e1 : HT.sIx (l.map dN).length 0 none = 0 := rfl
  have e2 : HT.sIx (l.map dN).length (l.map dN).length (some 1) = min 1 l.length := by rw [List.length_map]; rfl
  rw [e1, e2, List.drop_zero, ← List.map_take]
  congr 1
  cases l with
  | nil => rfl
  | cons a l => simp
theorem nb_snoc {U : List (Nat × Nat)} {p : Nat × Nat} {x : Nat} : nb (U ++ [p]) x = if atB x p then nb U x ++ [othN x p] else nb U x := by
  unfold nb
  rw [List.filter_append, List.map_append]
  cases h : atB x p with
  | true => rw [List.filter_cons, h]; rfl
  | false => rw [List.filter_cons, h]; simp
theorem nb_len (U : List (Nat × Nat)) (x : Nat) : (nb U x).length ≤ U.length := by unfold nb; rw [List.length_map]; exact filt_len _ _
theorem nb_lt {U : List (Nat × Nat)} {n x : Nat} (h : ∀ p ∈ U, p.1 < n ∧ p.2 < n) : ∀ y ∈ nb U x, y < n := fun y hy => by
  obtain ⟨p, hp, q⟩ := nb_mem.mp hy
  have := h p hp
  rcases q with ⟨_, q⟩ | ⟨_, _, q⟩ <;> omega
/-- a row behind its length -/
def dQ (r : List Nat) : D := .tup [.int (r.length : Int), dR r]
theorem ord_dQ (r : List Nat) : ordD (dQ r) = true := by
  show (true && (ordD (dR r) && true)) = true
  rw [ord_dR]; rfl
theorem dep_dQ (r : List Nat) : dep (dQ r) ≤ 2 := by
  show max 0 (max (dep (dR r)) 0) + 1 ≤ 2
  have := dep_dR r
  omega
def insQ (x : List Nat) : List (List Nat) → List (List Nat)
  | [] => [x]
  | y :: ys => if ltB (dQ y) (dQ x) then y :: insQ x ys else x :: y :: ys
def srtQ : List (List Nat) → List (List Nat)
  | [] => []
  | x :: xs => insQ x (srtQ xs)
theorem insD_dQ (x : List Nat) : ∀ l : List (List Nat), insD (dQ x) (l.map dQ) = (insQ x l).map dQ
  | [] => rfl
  | y :: ys => by
    rw [List.map_cons]
    unfold insD insQ
    cases h : ltB (dQ y) (dQ x) with
    | true => rw [if_pos rfl, if_pos rfl, List.map_cons, insD_dQ x ys]
    | false => rw [if_neg Bool.false_ne_true, if_neg Bool.false_ne_true]; rfl
theorem sortD_dQ : ∀ l : List (List Nat), sortD (l.map dQ) = (srtQ l).map dQ
  | [] => rfl
  | x :: xs => by
    rw [List.map_cons]
    unfold sortD srtQ
    rw [sortD_dQ xs, insD_dQ]
theorem lt_dQ (a b : List Nat) : (ltD (dQ a) (dQ b)).isSome = true := by
  show (ltG true (.tup [.int (a.length : Int), dR a]) (.tup [.int (b.length : Int), dR b])).isSome = true
  unfold ltG ltL
  rw [eq_int]
  have h2 : (ltL true [dR a] [dR b]).isSome = true := by
    unfold ltL
    rw [eqD_of (ord_dR a) (ord_dR b) (by have := dep_dR a; omega) (by have := dep_dR b; omega)]
    cases decide (cmpT (dR a) (dR b) = .eq) with
    | true => rfl
    | false =>
      obtain ⟨c, e⟩ := Option.isSome_iff_exists.mp (ltL_ints a b)
      have e : ltG true (dR a) (dR b) = some c := by
        show ltG true (.tup _) (.tup _) = _
        unfold ltG; exact e
      show (match ltG true (dR a) (dR b), ltL true [] [] with
        | some b, some _ => some b
        | _, _ => none).isSome = true
      rw [e]; rfl
  obtain ⟨c, e⟩ := Option.isSome_iff_exists.mp h2
  cases decide ((a.length : Int) = b.length) with
  | true => exact h2
  | false =>
    show (match ltG true (.int (a.length : Int)) (.int (b.length : Int)), ltL true [dR a] [dR b] with
      | some b, some _ => some b
      | _, _ => none).isSome = true
    rw [e]
    unfold ltG; rfl
theorem srt_dQs {l : List (List Nat)} (hl : l.length ≤ big) : srtOk (l.map dQ) = true := by
  unfold srtOk cmpAll
  have h1 : ((l.map dQ).all fun x => ordD x && decide (dep x ≤ 64) && (l.map dQ).all fun y => (ltD x y).isSome) = true := by
    rw [List.all_eq_true]
    intro x hx
    obtain ⟨r, hr, rfl⟩ := List.mem_map.mp hx
    rw [ord_dQ, decide_eq_true (by have := dep_dQ r; omega), Bool.true_and, Bool.true_and, List.all_eq_true]
    intro y hy
    obtain ⟨q, hq, rfl⟩ := List.mem_map.mp hy
    exact lt_dQ r q
  have h2 : (l.map dQ).all headI = true := by
    rw [List.all_eq_true]
    intro x hx
    obtain ⟨r, hr, rfl⟩ := List.mem_map.mp hx
    rfl
  rw [h1, h2, decide_eq_true (by rw [List.length_map]; exact hl)]
  simp
def insQ_mem {x y : List Nat} : ∀ {l : List (List Nat)}, y ∈ insQ x l ↔ y = x ∨ y ∈ l
  | [] => by simp [insQ]
  | z :: l => by
    unfold insQ
    split
    · rw [List.mem_cons, insQ_mem, List.mem_cons]
      constructor
      · rintro (h | h | h)
        · exact .inr (.inl h)
        · exact .inl h
        · exact .inr (.inr h)
      · rintro (h | h | h)
        · exact .inr (.inl h)
        · exact .inl h
        · exact .inr (.inr h)
    · simp
theorem srtQ_mem {y : List Nat} : ∀ {l : List (List Nat)}, y ∈ srtQ l ↔ y ∈ l
  | [] => by simp [srtQ]
  | x :: l => by unfold srtQ; rw [insQ_mem, srtQ_mem, List.mem_cons]
theorem srtQ_len : ∀ l : List (List Nat), (srtQ l).length = l.length
  | [] => rfl
  | x :: xs => by
    have ins : ∀ l : List (List Nat), (insQ x l).length = l.length + 1 := by
      intro l
      induction l with
      | nil => rfl
      | cons y ys ih =>
        unfold insQ
        split
        · rw [List.length_cons, ih]; rfl
        · rfl
    unfold srtQ
    rw [ins, srtQ_len xs]; rfl
/-- the row led over a set of places, where it goes round -/
def ledR (T : List (Nat × Nat)) (row : List Nat) : List Nat := ledF (T.filter (inB row)) 998 [headN row]
def okR (T : List (Nat × Nat)) (row : List Nat) : Bool := decide (4 < row.length) && (decide ((row.map fun x => ((T.filter (inB row)).filter (atB x)).length) = List.replicate row.length 2) && decide ((ledR T row).length = row.length))
def candR (T : List (Nat × Nat)) (rows : List (List Nat)) : List (List Nat) := (rows.filter (okR T)).map (ledR T)
def lawL (n : Nat) (T : List (Nat × Nat)) : List (List Nat) := srtQ (candR T (lotsF (List.range n)))
theorem b_rep {m : Nat} (h : m ≤ 100) : binD .mul (.lst [.int 2]) (.int (m : Int)) = some (.lst ((List.replicate m 2).map dN)) := by
  show (if (m : Int).natAbs ≤ big ∧ [D.int 2].length * (m : Int).toNat ≤ big then some (D.lst (List.replicate (m : Int).toNat [D.int 2]).flatten) else none) = _
  have e : (m : Int).toNat = m := by omega
  rw [e, if_pos ⟨by unfold big; omega, by rw [List.length_singleton]; unfold big; omega⟩]
  congr 2
  clear e h
  induction m with
  | zero => rfl
  | succ m ih => rw [List.replicate_succ, List.replicate_succ, List.flatten_cons, List.map_cons, ih]; rfl
theorem eq_N {l m : List Nat} : eqD (.lst (l.map dN)) (.lst (m.map dN)) = some (decide (l = m)) := eq_map (f := dN) ord_dN (fun r => by rw [dep_dN]; omega) dN_inj l m
theorem len_dR {r : List Nat} {s : S} : biD .len [dR r] s = some (.int (r.length : Int)) := by
  show some (D.int ((r.map dN).length : Nat)) = _
  rw [List.length_map]
/-! ### things of one kind as due -/
mutual
def sd : D → Bool
  | .non => true
  | .bl _ => true
  | .int _ => true
  | .str x => PyData.canLay0 (.str x)
  | .tup xs => sdL xs && decide (xs.length ≤ 1000)
  | .lst xs => sdL xs && decide (xs.length ≤ 1000)
  | _ => false
def sdL : List D → Bool
  | [] => true
  | x :: xs => sd x && sdL xs
end
def srtC : D → Int
  | .bl _ => 1 | .int _ => 2 | .str _ => 3 | .lst _ => 4 | .tup _ => 5 | _ => 6
theorem sdL_mem : ∀ {xs : List D}, sdL xs = true → ∀ x ∈ xs, sd x = true
  | [], _, _, hx => nomatch hx
  | y :: xs, h, x, hx => by
    unfold sdL at h
    obtain ⟨h1, h2⟩ := oa h
    rcases List.mem_cons.mp hx with e | e
    · rw [e]; exact h1
    · exact sdL_mem h2 x e
theorem depL_mem : ∀ {xs : List D}, ∀ x ∈ xs, dep x ≤ depL xs
  | [], _, hx => nomatch hx
  | y :: xs, x, hx => by
    show dep x ≤ max (dep y) (depL xs)
    rcases List.mem_cons.mp hx with e | e
    · rw [e]; omega
    · have := depL_mem x e; omega
theorem enm_mem : ∀ {xs : List D} {k : Nat} {d : D}, d ∈ enmD k xs → ∃ i x, d = .tup [.int ((k + i : Nat) : Int), x] ∧ xs[i]? = some x
  | [], k, d, h => nomatch h
  | x :: xs, k, d, h => by
    unfold enmD at h
    rcases List.mem_cons.mp h with e | e
    · exact ⟨0, x, e, rfl⟩
    · obtain ⟨i, y, e1, e2⟩ := enm_mem e
      refine ⟨i + 1, y, ?_, by simpa using e2⟩
      rw [e1, show k + 1 + i = k + (i + 1) by omega]
theorem enm_len : ∀ (xs : List D) (k : Nat), (enmD k xs).length = xs.length
  | [], _ => rfl
  | x :: xs, k => by unfold enmD; rw [List.length_cons, List.length_cons, enm_len xs]
theorem eq_nil : eqD (.lst []) (.lst []) = some true := rfl
theorem eq_self : ∀ {d : D}, sd d = true → (∀ xs, d ≠ .tup xs) → (∀ xs, d ≠ .lst xs) → eqD d d = some true
  | .non, _, _, _ => rfl
  | .bl b, _, _, _ => by cases b <;> rfl
  | .int i, _, _, _ => by rw [eq_int]; simp
  | .str x, h, _, _ => by
    have h : PyData.canLay0 (.str x) = true := h
    have hc : PyData.canLay0 (.str x) = true := h
    unfold eqD
    show (if (SeqAt.shaped (.str x) && SeqAt.shaped (.str x)) = true then some (PyData.eqv (.str x) (.str x)) else none) = _
    have : SeqAt.shaped (.str x) = true := by unfold SeqAt.shaped; rw [hc]; rfl
    rw [this]
    show some (x == x) = _
    rw [beq_self_eq_true]
  | .tup xs, _, h, _ => (h xs rfl).elim
  | .lst xs, _, _, h => (h xs rfl).elim
  | .box _, h, _, _ => by cases h
  | .fn _, h, _, _ => by cases h
theorem lc_none {f : D → S → Out (Option D)} {s : S} : ∀ {ds : List D}, (∀ d ∈ ds, f d s = .ok none s) → lcLoop f ds s = .ok [] s
  | [], _ => rfl
  | d :: ds, h => by
    unfold lcLoop
    rw [h d (.head _), bnd_ok, lc_none fun z hz => h z (.tail _ hz), bnd_ok]
theorem lc_noneR {β : Type} {f : D → S → Out (Option D)} {s : S} {k : List D → S → Out β} {R : Out β} {ds : List D} (h : ∀ d ∈ ds, f d s = .ok none s) (fin : k [] s = R) : bnd (lcLoop f ds s) k = R := by
  rw [lc_none h, bnd_ok]; exact fin
theorem c35 : decide ((3 : Int) < 5) = true := rfl
theorem c56 : decide ((5 : Int) < 6) = true := rfl
theorem c34 : decide ((3 : Int) < 4) = true := rfl
theorem c46 : decide ((4 : Int) < 6) = true := rfl
theorem sdL_map {α : Type} {f : α → D} : ∀ {l : List α}, (∀ a ∈ l, sd (f a) = true) → sdL (l.map f) = true
  | [], _ => rfl
  | a :: l, h => by
    show (sd (f a) && sdL (l.map f)) = true
    rw [h a (.head _), sdL_map fun b hb => h b (.tail _ hb)]; rfl
theorem sd_dR {r : List Nat} (h : r.length ≤ 7) : sd (dR r) = true := by
  show (sdL (r.map dN) && decide ((r.map dN).length ≤ 1000)) = true
  rw [sdL_map fun a _ => rfl, decide_eq_true (by rw [List.length_map]; omega)]; rfl
theorem sd_rows {l : List (List Nat)} (h : ∀ r ∈ l, r.length ≤ 7) (hl : l.length ≤ 127) : sd (.lst (l.map dR)) = true := by
  show (sdL (l.map dR) && decide ((l.map dR).length ≤ 1000)) = true
  rw [sdL_map fun r hr => sd_dR (h r hr), decide_eq_true (by rw [List.length_map]; omega)]; rfl
theorem dep_rows (l : List (List Nat)) : dep (.lst (l.map dR)) ≤ 2 := by
  show depL (l.map dR) + 1 ≤ 2
  have := depL_map (f := dR) (n := 1) dep_dR l
  omega
theorem sd_word {x : Str} {r : List Nat} (hx : PyData.canLay0 (.str x) = true) (h : r.length ≤ 7) : sd (.tup [.str x, dR r]) = true := by
  show ((PyData.canLay0 (.str x) && (sd (dR r) && true)) && decide (2 ≤ 1000)) = true
  rw [hx, sd_dR h]; rfl
theorem dep_word (x : Str) (r : List Nat) : dep (.tup [.str x, dR r]) ≤ 2 := by
  show max 0 (max (dep (dR r)) 0) + 1 ≤ 2
  have := dep_dR r
  omega
theorem lawL_bd {n : Nat} {T : List (Nat × Nat)} (hn : n ≤ 7) : (∀ r ∈ lawL n T, r.length ≤ 7) ∧ (lawL n T).length ≤ 127 := by
  constructor
  · intro r hr
    obtain ⟨row, hrow, rfl⟩ := List.mem_map.mp (srtQ_mem.mp hr)
    obtain ⟨h1, h2⟩ := List.mem_filter.mp hrow
    unfold okR at h2
    have h3 := of_decide_eq_true (oa (oa h2).2).2
    rw [h3]
    have := (lots_mem.mp h1).1.length_le
    rw [List.length_range] at this
    omega
  · unfold lawL
    rw [srtQ_len]
    have h : (candR T (lotsF (List.range n))).length ≤ (lotsF (List.range n)).length := by unfold candR; rw [List.length_map]; exact filt_len _ _
    have hL := lots_len (List.range n)
    rw [List.length_range] at hL
    have h7 : 2 ^ n ≤ 2 ^ 7 := Nat.pow_le_pow_right (by omega) hn
    omega
theorem eq_nilC {r : List Nat} {l : List (List Nat)} : eqD (.lst (dR r :: l.map dR)) (.lst []) = some false := by
  have := eq_nilR (l := r :: l)
  rw [List.map_cons] at this
  rw [this]; rfl
theorem for_cnt {f : D → Rho → S → Out Fl} (P : Nat → Rho → S → Prop) : ∀ (l : List D), (∀ d ∈ l, ∀ k r s, P (k + 1) r s → ∃ r' s', f d r s = .ok (.nx r') s' ∧ P k r' s') → ∀ r s, P l.length r s → ∃ r' s', forLoop f l r s = .ok (.nx r') s' ∧ P 0 r' s'
  | [], _, r, s, h => ⟨r, s, rfl, h⟩
  | d :: l, step, r, s, h => by
    obtain ⟨r1, s1, e1, h1⟩ := step d (.head _) l.length r s h
    obtain ⟨r2, s2, e2, h2⟩ := for_cnt P l (fun d hd => step d (.tail _ hd)) r1 s1 h1
    refine ⟨r2, s2, ?_, h2⟩
    unfold forLoop
    rw [e1, bnd_ok]
    exact e2
theorem for_cntG {β : Type} {f : D → Rho → S → Out Fl} {l : List D} {r : Rho} {s : S} {k : Fl → S → Out β} (G : Out β → Prop) (P : Nat → Rho → S → Prop) (h0 : P l.length r s) (step : ∀ d ∈ l, ∀ k r s, P (k + 1) r s → ∃ r' s', f d r s = .ok (.nx r') s' ∧ P k r' s') (fin : ∀ r' s', P 0 r' s' → G (k (.nx r') s')) : G (bnd (forLoop f l r s) k) := by
  obtain ⟨r', s', e, h⟩ := for_cnt P l step r s h0
  rw [e, bnd_ok]
  exact fin r' s' h
theorem cut_ints (l : List D) (lo hi : Option Int) : ∀ d ∈ cutD l lo hi, d ∈ l := fun d hd => by
  unfold cutD at hd
  exact List.mem_of_mem_drop (List.mem_of_mem_take hd)
end Tw
end
section
/-! Plain side: what is a web, of anything. -/
namespace Tw
open PySem
def win (d : D) (lo hi : Int) : Bool := match d with
  | .int i => decide (lo ≤ i) && decide (i ≤ hi)
  | _ => false
def isI (d : D) : Bool := match d with
  | .int _ => true
  | _ => false
def prW (n : Int) (d : D) : Bool := match d with
  | .tup [a, b] => win a 0 (n - 1) && win b 0 (n - 1) && (match a, b with
    | .int i, .int j => decide (i < j)
    | _, _ => false)
  | _ => false
def unD (d : D) : Nat × Nat := match d with
  | .tup [.int a, .int b] => (a.toNat, b.toNat)
  | _ => (0, 0)
def ltPb (p q : Nat × Nat) : Bool := decide (p.1 < q.1) || (decide (p.1 = q.1) && decide (p.2 < q.2))
theorem ltPb_iff {p q : Nat × Nat} : ltPb p q = true ↔ ltP p q := by
  unfold ltPb ltP
  simp
def chB (L : List (Nat × Nat)) : Bool := (L.zip (L.drop 1)).all fun q => ltPb q.1 q.2
def arW (n : Int) (d : D) : Bool := match d with
  | .tup ps => ps.all (prW n) && chB (ps.map unD)
  | _ => false
def isW (d : D) : Bool := match d with
  | .tup [a, b] => win a 1 7 && (match a with
    | .int i => arW i b
    | _ => false)
  | _ => false
theorem prW_nat {n : Int} {d : D} (h : prW n d = true) : ∃ p : Nat × Nat, d = dP p ∧ p.1 < p.2 ∧ (p.2 : Int) < n := by
  unfold prW at h
  split at h
  · rename_i a b
    obtain ⟨h, h3⟩ := oa h
    obtain ⟨h1, h2⟩ := oa h
    split at h3
    · rename_i i j _
      unfold win at h1 h2
      obtain ⟨p1, p2⟩ := oa h1
      obtain ⟨q1, q2⟩ := oa h2
      have p1 := of_decide_eq_true p1
      have q1 := of_decide_eq_true q1
      have q2 := of_decide_eq_true q2
      have h3 := of_decide_eq_true h3
      refine ⟨(i.toNat, j.toNat), ?_, ?_, ?_⟩
      · unfold dP
        rw [show ((i.toNat : Nat) : Int) = i by omega, show ((j.toNat : Nat) : Int) = j by omega]
      · show i.toNat < j.toNat
        omega
      · show ((j.toNat : Nat) : Int) < n
        omega
    · cases h3
  · cases h
theorem prW_dP {n : Int} {p : Nat × Nat} (h1 : p.1 < p.2) (h2 : (p.2 : Int) < n) : prW n (dP p) = true := by
  show (decide ((0 : Int) ≤ (p.1 : Int)) && decide ((p.1 : Int) ≤ n - 1) && (decide ((0 : Int) ≤ (p.2 : Int)) && decide ((p.2 : Int) ≤ n - 1)) && decide ((p.1 : Int) < (p.2 : Int))) = true
  rw [decide_eq_true (by omega), decide_eq_true (by omega), decide_eq_true (by omega), decide_eq_true (by omega), decide_eq_true (by omega)]; rfl
theorem unD_dP (p : Nat × Nat) : unD (dP p) = p := rfl
theorem all_prW {n : Int} : ∀ {ps : List D}, ps.all (prW n) = true → ∃ L : List (Nat × Nat), ps = L.map dP ∧ ∀ p ∈ L, p.1 < p.2 ∧ (p.2 : Int) < n
  | [], _ => ⟨[], rfl, fun p hp => nomatch hp⟩
  | d :: ps, h => by
    rw [List.all_cons] at h
    obtain ⟨h1, h2⟩ := oa h
    obtain ⟨p, e, q1, q2⟩ := prW_nat h1
    obtain ⟨L, e2, hL⟩ := all_prW h2
    refine ⟨p :: L, by rw [e, e2]; rfl, fun z hz => ?_⟩
    rcases List.mem_cons.mp hz with k | k
    · rw [k]; exact ⟨q1, q2⟩
    · exact hL z k
theorem map_un (L : List (Nat × Nat)) : (L.map dP).map unD = L := by
  rw [List.map_map]
  have : unD ∘ dP = id := funext unD_dP
  rw [this, List.map_id]
theorem cmp_dPb (p q : Nat × Nat) : cmpD .lt (dP p) (dP q) = some (ltPb p q) := by
  show (if dep (dP p) ≤ 64 then ltD (dP p) (dP q) else none) = _
  rw [if_pos (by rw [dep_dP]; omega)]
  show ltL true [.int (p.1 : Int), .int (p.2 : Int)] [.int (q.1 : Int), .int (q.2 : Int)] = _
  have l2 : ltL true [.int (p.2 : Int)] [.int (q.2 : Int)] = some (decide (p.2 < q.2)) := by
    unfold ltL
    rw [eq_int]
    by_cases h : (p.2 : Int) = (q.2 : Int)
    · rw [decide_eq_true h]
      unfold ltL
      rw [decide_eq_false (by omega)]
    · rw [decide_eq_false h]
      unfold ltG ltL
      simp
  unfold ltL
  rw [eq_int, l2]
  unfold ltPb
  by_cases h : (p.1 : Int) = (q.1 : Int)
  · have h' : p.1 = q.1 := by omega
    rw [decide_eq_true h]
    simp [h']
  · have h' : ¬ p.1 = q.1 := by omega
    rw [decide_eq_false h]
    unfold ltG
    simp [h']
theorem lc_runD {β : Type} {f : D → S → Out (Option D)} {s : S} {k : List D → S → Out β} {R : Out β} (h : D → D) {l : List D} (hf : ∀ a ∈ l, f a s = .ok (some (h a)) s) (fin : k (l.map h) s = R) : bnd (lcLoop f l s) k = R := by
  have z := lc_runA (f := f) (s := s) (k := k) (R := R) (g := id) (h := h) (l := l) hf fin
  rw [List.map_id] at z
  exact z
/-- strictly in order, by neighbours -/
theorem chB_iff : ∀ {L : List (Nat × Nat)}, chB L = true ↔ L.Pairwise ltP
  | [] => by simp [chB]
  | [a] => by simp [chB]
  | a :: b :: r => by
    have ih := chB_iff (L := b :: r)
    have e : chB (a :: b :: r) = (ltPb a b && chB (b :: r)) := by
      unfold chB
      simp
    rw [e, Bool.and_eq_true, ih, ltPb_iff]
    constructor
    · rintro ⟨h1, h2⟩
      refine List.pairwise_cons.mpr ⟨fun y hy => ?_, h2⟩
      rcases List.mem_cons.mp hy with k | k
      · rw [k]; exact h1
      · have h3 := (List.pairwise_cons.mp h2).1 y k
        unfold ltP at *
        omega
    · intro h
      obtain ⟨h1, h2⟩ := List.pairwise_cons.mp h
      exact ⟨h1 b (.head _), h2⟩
theorem ltP_uniq : ∀ {l m : List (Nat × Nat)}, l.Pairwise ltP → m.Pairwise ltP → (∀ x, x ∈ l ↔ x ∈ m) → l = m
  | [], [], _, _, _ => rfl
  | [], b :: m, _, _, h => absurd ((h b).mpr (.head _)) (by simp)
  | a :: l, [], _, _, h => absurd ((h a).mp (.head _)) (by simp)
  | a :: l, b :: m, h1, h2, h => by
    obtain ⟨a1, a2⟩ := List.pairwise_cons.mp h1
    obtain ⟨b1, b2⟩ := List.pairwise_cons.mp h2
    have irr : ∀ x, ¬ ltP x x := fun x z => by unfold ltP at z; omega
    have asy : ∀ x y, ltP x y → ltP y x → False := fun x y z w => by unfold ltP at *; omega
    have e : a = b := by
      rcases List.mem_cons.mp ((h a).mp (.head _)) with k | k
      · exact k
      · rcases List.mem_cons.mp ((h b).mpr (.head _)) with q | q
        · exact q.symm
        · exact (asy _ _ (b1 a k) (a1 b q)).elim
    subst e
    congr 1
    refine ltP_uniq a2 b2 fun x => ⟨fun hx => ?_, fun hx => ?_⟩
    · rcases List.mem_cons.mp ((h x).mp (.tail _ hx)) with k | k
      · exact (irr a (by rw [k] at hx; exact a1 a hx)).elim
      · exact k
    · rcases List.mem_cons.mp ((h x).mpr (.tail _ hx)) with k | k
      · exact (irr a (by rw [k] at hx; exact b1 a hx)).elim
      · exact k
theorem eq_dPs (l m : List (Nat × Nat)) : eqD (.lst (l.map dP)) (.lst (m.map dP)) = some (decide (l = m)) := eq_map ord_dP (fun p => by rw [dep_dP]; omega) dP_inj l m
mutual
/-- of anything: how long, how deep -/
def lenB (l : Nat) : D → Bool
  | .tup xs => lenL l xs && decide (xs.length ≤ l)
  | .lst xs => lenL l xs && decide (xs.length ≤ l)
  | _ => true
def lenL (l : Nat) : List D → Bool
  | [] => true
  | x :: xs => lenB l x && lenL l xs
end
/-- a thing of plain data: its containers' lengths, its depth -/
def Th (l e : Nat) (d : D) : Prop := sd d = true ∧ lenB l d = true ∧ dep d ≤ e
theorem sdL_iff : ∀ {xs : List D}, sdL xs = true ↔ ∀ x ∈ xs, sd x = true
  | [] => ⟨fun _ x h => (nomatch h), fun _ => rfl⟩
  | y :: xs => by
    unfold sdL
    rw [Bool.and_eq_true, sdL_iff (xs := xs)]
    simp
theorem lenL_iff {l : Nat} : ∀ {xs : List D}, lenL l xs = true ↔ ∀ x ∈ xs, lenB l x = true
  | [] => ⟨fun _ x h => (nomatch h), fun _ => rfl⟩
  | y :: xs => by
    unfold lenL
    rw [Bool.and_eq_true, lenL_iff (xs := xs)]
    simp
theorem depL_iff {e : Nat} : ∀ {xs : List D}, depL xs ≤ e ↔ ∀ x ∈ xs, dep x ≤ e
  | [] => ⟨fun _ x h => (nomatch h), fun _ => Nat.zero_le _⟩
  | y :: xs => by
    have ih := depL_iff (e := e) (xs := xs)
    have z : depL (y :: xs) = max (dep y) (depL xs) := rfl
    rw [z, Nat.max_le, ih]
    simp
theorem th_tup {l e : Nat} {xs : List D} (hl : l ≤ 1000) : Th l (e + 1) (.tup xs) ↔ (∀ x ∈ xs, Th l e x) ∧ xs.length ≤ l := by
  show ((sdL xs && decide (xs.length ≤ 1000)) = true ∧ (lenL l xs && decide (xs.length ≤ l)) = true ∧ depL xs + 1 ≤ e + 1) ↔ _
  rw [Bool.and_eq_true, Bool.and_eq_true, decide_eq_true_iff, decide_eq_true_iff, sdL_iff, lenL_iff, Nat.add_le_add_iff_right, depL_iff]
  constructor
  · rintro ⟨⟨a, b⟩, ⟨c, d⟩, f⟩
    exact ⟨fun x hx => ⟨a x hx, c x hx, f x hx⟩, d⟩
  · rintro ⟨a, b⟩
    exact ⟨⟨fun x hx => (a x hx).1, by omega⟩, ⟨fun x hx => (a x hx).2.1, b⟩, fun x hx => (a x hx).2.2⟩
theorem th_lst {l e : Nat} {xs : List D} (hl : l ≤ 1000) : Th l (e + 1) (.lst xs) ↔ (∀ x ∈ xs, Th l e x) ∧ xs.length ≤ l := th_tup hl
theorem th_tup0 {l : Nat} {xs : List D} : ¬ Th l 0 (.tup xs) := fun h => by
  have z : depL xs + 1 ≤ 0 := h.2.2
  omega
theorem th_lst0 {l : Nat} {xs : List D} : ¬ Th l 0 (.lst xs) := th_tup0
theorem Th.mono {l l' : Nat} (h1 : l ≤ l') (h3 : l' ≤ 1000) : ∀ {e e' : Nat} {d : D}, e ≤ e' → Th l e d → Th l' e' d
  | e, e', .tup xs, h2, h => by
    cases e with
    | zero => exact (th_tup0 h).elim
    | succ e =>
      cases e' with
      | zero => omega
      | succ e' =>
        obtain ⟨a, b⟩ := (th_tup (by omega)).mp h
        exact (th_tup h3).mpr ⟨fun x hx => Th.mono h1 h3 (by omega) (a x hx), by omega⟩
  | e, e', .lst xs, h2, h => by
    cases e with
    | zero => exact (th_lst0 h).elim
    | succ e =>
      cases e' with
      | zero => omega
      | succ e' =>
        obtain ⟨a, b⟩ := (th_lst (by omega)).mp h
        exact (th_lst h3).mpr ⟨fun x hx => Th.mono h1 h3 (by omega) (a x hx), by omega⟩
  | _, _, .non, _, _ => ⟨rfl, rfl, Nat.zero_le _⟩
  | _, _, .bl _, _, _ => ⟨rfl, rfl, Nat.zero_le _⟩
  | _, _, .int _, _, _ => ⟨rfl, rfl, Nat.zero_le _⟩
  | _, _, .str _, _, h => ⟨h.1, rfl, Nat.zero_le _⟩
  | _, _, .box _, _, h => by cases h.1
  | _, _, .fn _, _, h => by cases h.1
  | _, _, .xc _, _, h => by cases h.1
theorem th_int {l e : Nat} (i : Int) : Th l e (.int i) := ⟨rfl, rfl, Nat.zero_le _⟩
theorem th_non {l e : Nat} : Th l e .non := ⟨rfl, rfl, Nat.zero_le _⟩
theorem th_bl {l e : Nat} (b : Bool) : Th l e (.bl b) := ⟨rfl, rfl, Nat.zero_le _⟩
theorem th_dP {l e : Nat} (h : 2 ≤ l) (hl : l ≤ 1000) (p : Nat × Nat) : Th l (e + 1) (dP p) := (th_tup hl).mpr ⟨fun x hx => by
  have hx : x = .int (p.1 : Int) ∨ x = .int (p.2 : Int) := by simpa using hx
  rcases hx with k | k <;> rw [k] <;> exact th_int _, h⟩
theorem th_dW {n l : Nat} {T : List (Nat × Nat)} (h : T.length ≤ l) (h2 : 2 ≤ l) (hl : l ≤ 1000) : Th l 3 (dW n T) := (th_tup hl).mpr ⟨fun x hx => by
  have hx : x = .int (n : Int) ∨ x = .tup (T.map dP) := by simpa using hx
  rcases hx with k | k <;> rw [k]
  · exact th_int _
  · refine (th_tup hl).mpr ⟨fun y hy => ?_, by rw [List.length_map]; exact h⟩
    obtain ⟨p, _, rfl⟩ := List.mem_map.mp hy
    exact th_dP h2 hl p, h2⟩
theorem cut_mem {l : List D} {lo hi : Option Int} : (∀ d ∈ cutD l lo hi, d ∈ l) ∧ (cutD l lo hi).length ≤ l.length := ⟨cut_ints l lo hi, by
  unfold cutD
  rw [List.length_take, List.length_drop]; omega⟩
theorem cut_take1 (l : List D) : (cutD l none (some 1)).length ≤ 1 := by
  unfold cutD HT.sIx
  simp
  omega
theorem set_mem {l : List D} {i : Nat} {x : D} : ∀ d ∈ l.set i x, d ∈ l ∨ d = x := fun d hd => List.mem_or_eq_of_mem_set hd
theorem prW_ii {n i j : Int} : prW n (.tup [.int i, .int j]) = (decide (0 ≤ i) && (decide (i < j) && decide (j < n))) := by
  show (decide ((0 : Int) ≤ i) && decide (i ≤ n - 1) && (decide ((0 : Int) ≤ j) && decide (j ≤ n - 1)) && decide (i < j)) = _
  rw [Bool.eq_iff_iff]
  simp only [Bool.and_eq_true, decide_eq_true_eq]
  omega
theorem for_exit {f : D → Rho → S → Out Fl} {s : S} {P : Rho → Prop} {g : D → Bool} {x : D} : ∀ {l : List D}, (∀ d ∈ l, ∀ r, P r → (g d = true → ∃ r', f d r s = .ok (.nx r') s ∧ P r') ∧ (g d = false → f d r s = .ok (.rt x) s)) → ∀ r, P r →
    (l.all g = true → ∃ r', forLoop f l r s = .ok (.nx r') s ∧ P r') ∧ (l.all g = false → forLoop f l r s = .ok (.rt x) s)
  | [], _, r, h => ⟨fun _ => ⟨r, rfl, h⟩, fun e => (by cases e)⟩
  | d :: l, st, r, h => by
    obtain ⟨a, b⟩ := st d (.head _) r h
    cases e : g d with
    | true =>
      obtain ⟨r', e1, h1⟩ := a e
      obtain ⟨c, d'⟩ := for_exit (l := l) (fun z hz => st z (.tail _ hz)) r' h1
      have e2 : forLoop f (d :: l) r s = forLoop f l r' s := by
        show bnd (f d r s) _ = _
        rw [e1, bnd_ok]
      rw [e2, List.all_cons, e, Bool.true_and]
      exact ⟨c, d'⟩
    | false =>
      have e2 : forLoop f (d :: l) r s = .ok (.rt x) s := by
        show bnd (f d r s) _ = _
        rw [b e, bnd_ok]
      rw [e2, List.all_cons, e, Bool.false_and]
      exact ⟨fun z => (by cases z), fun _ => rfl⟩
theorem eq1_nil : eqD (.lst [.int 1]) (.lst []) = some false := rfl
theorem eq2_nil : eqD (.lst [.int 1, .int 1]) (.lst []) = some false := rfl
theorem isI_int {d : D} (h : isI d = true) : ∃ i, d = .int i := by
  cases d <;> first | exact ⟨_, rfl⟩ | cases h
theorem prW_noI {n : Int} {a b : D} (h : (isI a && isI b) = false) : prW n (.tup [a, b]) = false := by
  cases e : prW n (.tup [a, b]) with
  | false => rfl
  | true =>
    obtain ⟨p, e1, _⟩ := prW_nat e
    injection e1 with e1
    injection e1 with e2 e3
    injection e3 with e3
    rw [e2, e3] at h
    cases h
theorem win_I {d : D} {lo hi : Int} (h : isI d = false) : win d lo hi = false := by
  cases d <;> first | rfl | cases h
theorem isW_f {a b : D} (h : win a 1 7 = false) : isW (.tup [a, b]) = false := by
  unfold isW
  simp only [h, Bool.false_and]
theorem isW_i {n : Int} {b : D} : isW (.tup [.int n, b]) = (decide (1 ≤ n) && decide (n ≤ 7) && arW n b) := rfl
theorem for_exitR {β : Type} {f : D → Rho → S → Out Fl} {l : List D} {r : Rho} {s : S} {k : Fl → S → Out β} {R : Out β} (g : D → Bool) (x : D) (P : Rho → Prop) (h0 : P r)
    (step : ∀ d ∈ l, ∀ r, P r → (g d = true → ∃ r', f d r s = .ok (.nx r') s ∧ P r') ∧ (g d = false → f d r s = .ok (.rt x) s)) (yes : l.all g = true → ∀ r', P r' → k (.nx r') s = R) (no : l.all g = false → k (.rt x) s = R) : bnd (forLoop f l r s) k = R := by
  obtain ⟨a, b⟩ := for_exit (l := l) step r h0
  cases e : l.all g with
  | true =>
    obtain ⟨r', e1, h1⟩ := a e
    rw [e1, bnd_ok]
    exact yes e r' h1
  | false =>
    rw [b e, bnd_ok]
    exact no e
theorem for_cntE {f : D → Rho → S → Out Fl} {l : List D} {r : Rho} {s : S} (G : Out Fl → Prop) (P : Nat → Rho → S → Prop) (h0 : P l.length r s) (step : ∀ d ∈ l, ∀ k r s, P (k + 1) r s → ∃ r' s', f d r s = .ok (.nx r') s' ∧ P k r' s') (fin : ∀ r' s', P 0 r' s' → G (.ok (.nx r') s')) : G (forLoop f l r s) := by
  obtain ⟨r', s', e, h⟩ := for_cnt P l step r s h0
  rw [e]
  exact fin r' s' h
end Tw
end
section
/-! Plain side: rows of ties, chosen in order; the first that is good. -/
namespace Tw
open PySem
abbrev Pr := Nat × Nat
def lastP (r : List Pr) : Pr := r.getLast?.getD (0, 0)
def dPs (r : List Pr) : D := .tup (r.map dP)
def extB (r : List Pr) (p : Pr) : Bool := decide (r = []) || ltPb (lastP r) p
def extP (P : List Pr) (row : List Pr) : List (List Pr) := (P.filter (extB row)).map fun p => row ++ [p]
def chooseF (P : List Pr) : Nat → List (List Pr)
  | 0 => [[]]
  | k + 1 => (chooseF P k).flatMap (extP P)
theorem sum_flat {α β : Type} (f : β → Nat) (g : α → List β) : ∀ l : List α, ((l.flatMap g).map f).sum = (l.map fun a => ((g a).map f).sum).sum
  | [] => rfl
  | a :: l => by rw [List.flatMap_cons, List.map_append, List.sum_append, List.map_cons, List.sum_cons, sum_flat f g l]
theorem sum_le {α : Type} {f g : α → Nat} : ∀ {l : List α}, (∀ a ∈ l, f a ≤ g a) → (l.map f).sum ≤ (l.map g).sum
  | [], _ => Nat.le_refl _
  | a :: l, h => by
    rw [List.map_cons, List.map_cons, List.sum_cons, List.sum_cons]
    have := h a (.head _)
    have := sum_le fun b hb => h b (.tail _ hb)
    omega
theorem ltPb_as {p q : Pr} (h : ltPb p q = true) : ltPb q p = false := by
  cases e : ltPb q p with
  | false => rfl
  | true =>
    have h := ltPb_iff.mp h
    have e := ltPb_iff.mp e
    unfold ltP at h e
    omega
theorem ltPb_irr (p : Pr) : ltPb p p = false := by
  cases e : ltPb p p with
  | false => rfl
  | true =>
    have e := ltPb_iff.mp e
    unfold ltP at e
    omega
theorem ltPb_tr {p q r : Pr} (h : ltPb p q = true) (k : ltPb q r = true) : ltPb p r = true := by
  have h := ltPb_iff.mp h
  have k := ltPb_iff.mp k
  refine ltPb_iff.mpr ?_
  unfold ltP at *
  omega
theorem sumF : ∀ {F : List Pr}, F.Pairwise ltP → (F.map fun p => 2 ^ (F.filter (ltPb p)).length).sum + 1 ≤ 2 ^ F.length
  | [], _ => by simp
  | a :: r, h => by
    obtain ⟨h1, h2⟩ := List.pairwise_cons.mp h
    have ih := sumF h2
    have e1 : (a :: r).filter (ltPb a) = r := by
      rw [List.filter_cons, ltPb_irr]
      simp only [Bool.false_eq_true, if_false]
      exact List.filter_eq_self.mpr fun b hb => ltPb_iff.mpr (h1 b hb)
    have e2 : (r.map fun p => 2 ^ ((a :: r).filter (ltPb p)).length) = r.map fun p => 2 ^ (r.filter (ltPb p)).length := by
      refine List.map_congr_left fun b hb => ?_
      rw [List.filter_cons, ltPb_as (ltPb_iff.mpr (h1 b hb))]
      simp
    rw [List.map_cons, List.sum_cons, e1, e2, List.length_cons, Nat.pow_succ]
    omega
def wtP (P : List Pr) (row : List Pr) : Nat := 2 ^ (P.filter (extB row)).length
theorem last_snocP (row : List Pr) (p : Pr) : lastP (row ++ [p]) = p := by unfold lastP; simp
theorem ext_snoc (row : List Pr) (p : Pr) : extB (row ++ [p]) = ltPb p := by
  funext q
  unfold extB
  rw [last_snocP]
  simp
theorem ext_wt {P : List Pr} (h : P.Pairwise ltP) (row : List Pr) : ((extP P row).map (wtP P)).sum ≤ wtP P row := by
  have hF : (P.filter (extB row)).Pairwise ltP := h.filter _
  have e : ((extP P row).map (wtP P)) = (P.filter (extB row)).map fun p => 2 ^ ((P.filter (extB row)).filter (ltPb p)).length := by
    unfold extP
    rw [List.map_map]
    refine List.map_congr_left fun p hp => ?_
    obtain ⟨_, hb⟩ := List.mem_filter.mp hp
    show wtP P (row ++ [p]) = _
    unfold wtP
    rw [ext_snoc, List.filter_filter]
    congr 2
    refine List.filter_congr fun q _ => ?_
    cases k : ltPb p q with
    | false => rfl
    | true =>
      have : extB row q = true := by
        unfold extB at hb ⊢
        rcases Bool.or_eq_true_iff.mp hb with z | z
        · rw [z]; rfl
        · rw [ltPb_tr z k, Bool.or_true]
      rw [this]; rfl
  rw [e]
  have := sumF hF
  unfold wtP
  omega
theorem choose_wt {P : List Pr} (h : P.Pairwise ltP) : ∀ k, ((chooseF P k).map (wtP P)).sum ≤ 2 ^ P.length
  | 0 => by
    show wtP P [] + 0 ≤ _
    unfold wtP
    exact Nat.pow_le_pow_right (by omega) (List.length_filter_le _ _)
  | k + 1 => by
    show (((chooseF P k).flatMap (extP P)).map (wtP P)).sum ≤ _
    rw [sum_flat]
    exact Nat.le_trans (sum_le fun row _ => ext_wt h row) (choose_wt h k)
theorem len_sum {α : Type} {f : α → Nat} : ∀ {l : List α}, (∀ a, 1 ≤ f a) → l.length ≤ (l.map f).sum
  | [], _ => Nat.le_refl _
  | a :: l, h => by
    rw [List.map_cons, List.sum_cons, List.length_cons]
    have := h a
    have := len_sum (l := l) h
    omega
theorem choose_len {P : List Pr} (h : P.Pairwise ltP) (hl : P.length ≤ 15) (k : Nat) : (chooseF P k).length ≤ 32768 := by
  have h1 := len_sum (f := wtP P) (l := chooseF P k) fun a => Nat.pow_pos (by omega)
  have h2 := choose_wt h k
  have h3 : 2 ^ P.length ≤ 2 ^ 15 := Nat.pow_le_pow_right (by omega) hl
  omega
theorem cmp_gtP (p q : Pr) : cmpD .gt (dP p) (dP q) = some (ltPb q p) := by
  show (if dep (dP p) ≤ 64 then ltG false (dP p) (dP q) else none) = _
  rw [if_pos (by rw [dep_dP]; omega)]
  show ltL false [.int (p.1 : Int), .int (p.2 : Int)] [.int (q.1 : Int), .int (q.2 : Int)] = _
  have l2 : ltL false [.int (p.2 : Int)] [.int (q.2 : Int)] = some (decide (q.2 < p.2)) := by
    unfold ltL
    rw [eq_int]
    by_cases h : (p.2 : Int) = (q.2 : Int)
    · rw [decide_eq_true h]
      unfold ltL
      rw [decide_eq_false (by omega)]
    · rw [decide_eq_false h]
      unfold ltG ltL
      simp
  unfold ltL
  rw [eq_int, l2]
  unfold ltPb
  by_cases h : (p.1 : Int) = (q.1 : Int)
  · have h' : q.1 = p.1 := by omega
    rw [decide_eq_true h]
    simp [h']
  · have h' : ¬ q.1 = p.1 := by omega
    rw [decide_eq_false h]
    unfold ltG
    simp [h']
theorem ord_dPs (r : List Pr) : ordD (dPs r) = true := ordL_map ord_dP r
theorem dep_dPs (r : List Pr) : dep (dPs r) ≤ 2 := by
  show depL (r.map dP) + 1 ≤ 2
  have := depL_map (f := dP) (n := 1) (fun p => by rw [dep_dP]; omega) r
  omega
theorem dPs_inj (a b : List Pr) (h : dPs a = dPs b) : a = b := map_inj dP_inj (D.tup.inj h)
theorem eq_dPsD (a b : List Pr) : eqD (dPs a) (dPs b) = some (decide (a = b)) := by
  rw [eqD_of (ord_dPs a) (ord_dPs b) (by have := dep_dPs a; omega) (by have := dep_dPs b; omega)]
  exact congrArg some (cmp_inj ord_dPs dPs_inj a b)
theorem last_dPs {r : List Pr} (h : r ≠ []) {s : S} : idxD (dPs r) (.int (-1)) s = some (dP (lastP r)) := by
  show ixD (r.map dP) (-1) = _
  rw [ixD_last (by simpa using h), List.getLast?_map]
  unfold lastP
  cases e : r.getLast? with
  | none => exact (h (List.getLast?_eq_none_iff.mp e)).elim
  | some p => rfl
theorem add_dPs {r : List Pr} {p : Pr} (h : r.length ≤ 1000) : binD .add (dPs r) (.tup [dP p]) = some (dPs (r ++ [p])) := by
  show binD .add (.tup (r.map dP)) (.tup [dP p]) = _
  rw [b_addT (by rw [List.length_map]; show r.length + 1 ≤ big; unfold big; omega)]
  unfold dPs
  rw [List.map_append]; rfl
theorem choose_rowlen {P : List Pr} : ∀ {k : Nat} {row : List Pr}, row ∈ chooseF P k → row.length = k ∧ ∀ p ∈ row, p ∈ P
  | 0, row, h => by
    have e : row = [] := by simpa [chooseF] using h
    subst e
    exact ⟨rfl, fun p hp => nomatch hp⟩
  | k + 1, row, h => by
    obtain ⟨r0, h0, h1⟩ := List.mem_flatMap.mp (show row ∈ (chooseF P k).flatMap (extP P) from h)
    obtain ⟨p, hp, rfl⟩ := List.mem_map.mp h1
    obtain ⟨e1, e2⟩ := choose_rowlen h0
    refine ⟨by rw [List.length_append, e1]; rfl, fun q hq => ?_⟩
    rcases List.mem_append.mp hq with z | z
    · exact e2 q z
    · rw [List.mem_singleton.mp z]; exact (List.mem_filter.mp hp).1
theorem eq_dPs0 (r : List Pr) : eqD (dPs r) (.tup []) = some (decide (r = [])) := eq_dPsD r []
theorem for_findG {α β : Type} {f : D → Rho → S → Out Fl} {s : S} {k : Fl → S → Out β} (G : Out β → Prop) (g : α → D) (o : α → Option D) (P : Rho → Prop) : ∀ {l : List α} {r : Rho}, P r →
    (∀ a ∈ l, ∀ r, P r → (∀ v, o a = some v → f (g a) r s = .ok (.rt v) s) ∧ (o a = none → ∃ r', f (g a) r s = .ok (.nx r') s ∧ P r')) →
    (∀ v, l.findSome? o = some v → G (k (.rt v) s)) → (l.findSome? o = none → ∀ r', P r' → G (k (.nx r') s)) → G (bnd (forLoop f (l.map g) r s) k)
  | [], r, h, _, _, no => no rfl r h
  | a :: l, r, h, st, yes, no => by
    obtain ⟨s1, s2⟩ := st a (.head _) r h
    cases e : o a with
    | some v =>
      have e2 : forLoop f ((a :: l).map g) r s = .ok (.rt v) s := by
        show bnd (f (g a) r s) _ = _
        rw [s1 v e, bnd_ok]
      rw [e2, bnd_ok]
      exact yes v (by rw [List.findSome?_cons, e])
    | none =>
      obtain ⟨r', e1, h1⟩ := s2 e
      have e2 : forLoop f ((a :: l).map g) r s = forLoop f (l.map g) r' s := by
        show bnd (f (g a) r s) _ = _
        rw [e1, bnd_ok]
      rw [e2]
      exact for_findG G g o P h1 (fun b hb => st b (.tail _ hb)) (fun v z => yes v (by rw [List.findSome?_cons, e]; exact z)) (fun z => no (by rw [List.findSome?_cons, e]; exact z))
/-- the first good one, by how many and then in order -/
def goodD (good : List Pr → Bool) (row : List Pr) : Option D := if good row then some (dPs row) else none
def firstD' (P : List Pr) (good : List Pr → Bool) : Option D := (List.range (P.length + 1)).findSome? fun many => (chooseF P many).findSome? (goodD good)
theorem findSome_congr {α β : Type} {o o' : α → Option β} : ∀ {l : List α}, (∀ a ∈ l, o a = o' a) → l.findSome? o = l.findSome? o'
  | [], _ => rfl
  | a :: l, h => by rw [List.findSome?_cons, List.findSome?_cons, h a (.head _), findSome_congr fun b hb => h b (.tail _ hb)]
theorem first_congr {P : List Pr} {good good' : List Pr → Bool} (h : ∀ row, (∀ p ∈ row, p ∈ P) → good row = good' row) : firstD' P good = firstD' P good' :=
  findSome_congr fun many _ => findSome_congr fun row hr => by unfold goodD; rw [h row (choose_rowlen hr).2]
theorem cmp_gtM (p : Pr) : cmpD .gt (dP p) (.tup [.int (-1), .int (-1)]) = some true := by
  show (if dep (dP p) ≤ 64 then ltG false (dP p) (.tup [.int (-1), .int (-1)]) else none) = _
  rw [if_pos (by rw [dep_dP]; omega)]
  show ltL false [.int (p.1 : Int), .int (p.2 : Int)] [.int (-1), .int (-1)] = _
  have l2 : ltL false [.int (p.2 : Int)] [.int (-1)] = some true := by
    unfold ltL
    rw [eq_int, decide_eq_false (by omega)]
    unfold ltG ltL
    simp
    omega
  unfold ltL
  rw [eq_int, l2, decide_eq_false (by omega)]
  unfold ltG
  simp
  omega
end Tw
end
section
/-! Plain side: ties sorted; ties struck and put. -/
namespace Tw
open PySem
/-- the ties of L, in order, each once -/
def uT (n : Nat) (L : List Pr) : List Pr := (prs n).filter fun p => decide (p ∈ L)
theorem uT_srt (n : Nat) (L : List Pr) : (uT n L).Pairwise ltP := (prs_srt n).filter _
theorem uT_mem {n : Nat} {L : List Pr} (h : ∀ p ∈ L, p.1 < p.2 ∧ p.2 < n) (p : Pr) : p ∈ uT n L ↔ p ∈ L := by
  unfold uT
  rw [List.mem_filter, decide_eq_true_iff]
  exact ⟨fun z => z.2, fun z => ⟨prs_mem.mpr (h p z), z⟩⟩
theorem uT_eq {n : Nat} {L M : List Pr} (h : ∀ p ∈ L, p.1 < p.2 ∧ p.2 < n) (s : M.Pairwise ltP) (e : ∀ p, p ∈ M ↔ p ∈ L) : M = uT n L := ltP_uniq s (uT_srt n L) fun p => (e p).trans (uT_mem h p).symm
theorem uT_len {n : Nat} (hn : n ≤ 7) (L : List Pr) : (uT n L).length ≤ 49 := Nat.le_trans (List.length_filter_le _ _) (prs_len hn)
theorem uT_good {n : Nat} {L : List Pr} (h0 : 1 ≤ n) (hn : n ≤ 7) : GoodW n (uT n L) := ⟨h0, hn, uT_srt n L, fun p hp => prs_mem.mp (List.mem_filter.mp hp).1, by have := uT_len hn L; omega⟩
theorem sset_uT {n : Nat} {L : List Pr} (hn : n ≤ 7) (h : ∀ p ∈ L, p.1 < p.2 ∧ p.2 < n) (hl : L.length < 64) : ssetD (L.map dP) = some (.lst ((uT n L).map dP)) := by
  obtain ⟨T, t1, t2, t3, _⟩ := sset_pairs hn h hl
  rw [t1, uT_eq h t2 t3]
theorem ltB_dPb (p q : Pr) : ltB (dP p) (dP q) = ltPb p q := by
  cases e : ltPb p q with
  | true => exact ltB_dP (ltPb_iff.mp e)
  | false =>
    refine decide_eq_false ?_
    show ¬ cmpTL [.int (p.1 : Int), .int (p.2 : Int)] [.int (q.1 : Int), .int (q.2 : Int)] = .lt
    have n1 : ¬ ltP p q := fun z => by rw [ltPb_iff.mpr z] at e; cases e
    unfold ltP at n1
    unfold cmpTL
    unfold cmpT
    by_cases h1 : (q.1 : Int) < (p.1 : Int)
    · rw [if_neg (by omega), if_pos h1]; simp
    · rw [if_neg (by omega), if_neg h1]
      show ¬ cmpTL [.int (p.2 : Int)] [.int (q.2 : Int)] = .lt
      unfold cmpTL
      unfold cmpT
      by_cases h2 : (q.2 : Int) < (p.2 : Int)
      · rw [if_neg (by omega), if_pos h2]; simp
      · rw [if_neg (by omega), if_neg h2]
        show ¬ cmpTL [] [] = .lt
        unfold cmpTL
        simp
def insP (x : Pr) : List Pr → List Pr
  | [] => [x]
  | y :: ys => if ltPb y x then y :: insP x ys else x :: y :: ys
def srtP : List Pr → List Pr
  | [] => []
  | x :: xs => insP x (srtP xs)
theorem insD_dP (x : Pr) : ∀ l : List Pr, insD (dP x) (l.map dP) = (insP x l).map dP
  | [] => rfl
  | y :: l => by
    show (if ltB (dP y) (dP x) = true then dP y :: insD (dP x) (l.map dP) else dP x :: dP y :: l.map dP) = _
    rw [ltB_dPb]
    unfold insP
    cases ltPb y x with
    | true => rw [if_pos rfl, if_pos rfl, insD_dP x l]; rfl
    | false => rw [if_neg Bool.false_ne_true, if_neg Bool.false_ne_true]; rfl
theorem sortD_dP : ∀ l : List Pr, sortD (l.map dP) = (srtP l).map dP
  | [] => rfl
  | x :: l => by
    show insD (dP x) (sortD (l.map dP)) = _
    rw [sortD_dP l, insD_dP]; rfl
theorem insP_mem {x y : Pr} : ∀ {l : List Pr}, y ∈ insP x l ↔ y = x ∨ y ∈ l
  | [] => by simp [insP]
  | z :: l => by
    unfold insP
    split
    · rw [List.mem_cons, insP_mem, List.mem_cons]
      constructor
      · rintro (h | h | h)
        · exact .inr (.inl h)
        · exact .inl h
        · exact .inr (.inr h)
      · rintro (h | h | h)
        · exact .inr (.inl h)
        · exact .inl h
        · exact .inr (.inr h)
    · simp
theorem srtP_mem {y : Pr} : ∀ {l : List Pr}, y ∈ srtP l ↔ y ∈ l
  | [] => by simp [srtP]
  | x :: l => by unfold srtP; rw [insP_mem, srtP_mem, List.mem_cons]
theorem insP_srt {x : Pr} : ∀ {l : List Pr}, l.Pairwise ltP → x ∉ l → (insP x l).Pairwise ltP
  | [], _, _ => List.pairwise_singleton ltP x
  | y :: l, h, hx => by
    obtain ⟨h1, h2⟩ := List.pairwise_cons.mp h
    unfold insP
    split
    · rename_i k
      refine List.pairwise_cons.mpr ⟨fun z hz => ?_, insP_srt h2 fun q => hx (.tail _ q)⟩
      rcases insP_mem.mp hz with e | e
      · rw [e]; exact ltPb_iff.mp k
      · exact h1 z e
    · rename_i k
      have xy : ltP x y := by
        have n1 : ¬ ltP y x := fun z => k (ltPb_iff.mpr z)
        have n2 : x ≠ y := fun z => hx (by rw [z]; exact .head _)
        unfold ltP at *
        have : ¬ (x.1 = y.1 ∧ x.2 = y.2) := fun z => n2 (Prod.ext z.1 z.2)
        omega
      refine List.pairwise_cons.mpr ⟨fun z hz => ?_, h⟩
      rcases List.mem_cons.mp hz with e | e
      · rw [e]; exact xy
      · have := h1 z e
        unfold ltP at *
        omega
theorem srtP_srt : ∀ {l : List Pr}, l.Nodup → (srtP l).Pairwise ltP
  | [], _ => List.Pairwise.nil
  | x :: l, h => by
    obtain ⟨h1, h2⟩ := List.nodup_cons.mp h
    exact insP_srt (srtP_srt h2) fun z => h1 (srtP_mem.mp z)
theorem ltL_pair (p q : Pr) : (ltD (dP p) (dP q)).isSome = true := by
  have z := cmp_dPb p q
  have e : cmpD .lt (dP p) (dP q) = if dep (dP p) ≤ 64 then ltD (dP p) (dP q) else none := rfl
  rw [e, if_pos (by rw [dep_dP]; omega)] at z
  rw [z]; rfl
theorem srt_dPs {l : List Pr} (hl : l.length ≤ big) : srtOk (l.map dP) = true := by
  unfold srtOk cmpAll
  have h1 : ((l.map dP).all fun x => ordD x && decide (dep x ≤ 64) && (l.map dP).all fun y => (ltD x y).isSome) = true := by
    rw [List.all_eq_true]
    intro x hx
    obtain ⟨p, hp, rfl⟩ := List.mem_map.mp hx
    rw [ord_dP, decide_eq_true (by rw [dep_dP]; omega), Bool.true_and, Bool.true_and, List.all_eq_true]
    intro y hy
    obtain ⟨q, hq, rfl⟩ := List.mem_map.mp hy
    exact ltL_pair p q
  have h2 : (l.map dP).all headI = true := by
    rw [List.all_eq_true]
    intro x hx
    obtain ⟨p, hp, rfl⟩ := List.mem_map.mp hx
    rfl
  rw [h1, h2, decide_eq_true (by rw [List.length_map]; exact hl)]
  simp
theorem sorted_uT {n : Nat} {L : List Pr} (nd : L.Nodup) (h : ∀ p ∈ L, p.1 < p.2 ∧ p.2 < n) (hl : L.length ≤ 1000) {s : S} : biD .sorted [.lst (L.map dP)] s = some (.lst ((uT n L).map dP)) := by
  rw [bi_srt_l, if_pos (srt_dPs (by unfold big; omega)), sortD_dP, uT_eq h (srtP_srt nd) fun p => srtP_mem]
theorem not_dPs (p : Pr) (r : List Pr) : cmpD .notin (dP p) (dPs r) = some (decide (p ∉ r)) := by
  show (inD (dP p) (r.map dP)).map (!·) = _
  rw [in_dP]
  by_cases h : p ∈ r <;> simp [h]
theorem ltP_nd {l : List Pr} (h : l.Pairwise ltP) : l.Nodup := h.imp fun {a b} k e => by
  subst e
  unfold ltP at k
  omega
theorem addT_dPs {T row : List Pr} (h : T.length + row.length ≤ 1000) : binD .add (.tup (T.map dP)) (dPs row) = some (.tup ((T ++ row).map dP)) := by
  show binD .add (.tup (T.map dP)) (.tup (row.map dP)) = _
  rw [b_addT (by simp only [List.length_map]; unfold big; omega), List.map_append]
end Tw
end
section
open PySem
namespace Tw.K09
theorem m_are_tied {k n a b : Nat} {T : List (Nat × Nat)} {s : S} : calD ds (k + 1) 6 [dW n T, .int (a : Int), .int (b : Int)] s = .ok (.bl (adj T a b)) s := by
  rw [cal_at (d := d_are_tied) rfl rfl]
  simp only [startR, exSs, exS, evE, evEs, evI, evO, evC, getR_0, getR_s, setR, tgR, wipeR, idx_tup, idx_lst, idx_dW0, idx_dW1, bi_len_t, bi_len_l, bi_all, bi_any, bi_min2, bi_max2, bi_tuple_l, bi_tuple_t, bi_list_l, bi_list_t, bi_int, bi_srt_l, bi_srt_t, bi_sset, bi_ssetT, chkB_bl, seq_t, seq_l, b_add, b_sub, ty_non, ty_bl, ty_int, ty_str, ty_tup, ty_lst, ty_dW, List.map_cons, List.map_nil, List.cons_append, List.nil_append, List.replicate_succ, List.replicate_zero, List.length_cons, List.length_nil, List.set_cons_zero, List.set_cons_succ, bnd_ok, bnd_bnd, noex_ok, opt_some, Option.map_some, Option.bind_some, List.getElem?_cons_zero, List.getElem?_cons_succ, ixD_0, ixD_1, ixD_2, cmpD_in, cmpD_inL, cmpD_not, cmpD_notL, cmpD_eq, cmpD_ne, cmpD_lt, cmpD_gt, cmpD_le, cmpD_ge, big0, big1, big2, big3, big4, big5, big6, big7, if_true, if_false, Nat.reduceAdd, Nat.reduceSub, Nat.reduceLT, ↓reduceIte, dec_lt, dec_le, dec_eq, eq_int, lst_of, Bool.false_eq_true, d_are_tied, b_are_tied, min_int, max_int, dP_eq, in_dP]
  rfl
theorem m_near {k n a : Nat} {T : List (Nat × Nat)} {s : S} (hn : n ≤ 7) : calD ds (k + 2) 7 [dW n T, .int (a : Int)] s = .ok (dR ((List.range n).filter fun b => adj T a b)) s := by
  have hn' : n ≤ big := by unfold big; omega
  rw [cal_at (d := d_near) rfl rfl]
  simp only [startR, exSs, exS, evE, evEs, evI, evO, evC, getR_0, getR_s, setR, tgR, wipeR, idx_tup, idx_lst, idx_dW0, idx_dW1, bi_len_t, bi_len_l, bi_all, bi_any, bi_min2, bi_max2, bi_tuple_l, bi_tuple_t, bi_list_l, bi_list_t, bi_int, bi_srt_l, bi_srt_t, bi_sset, bi_ssetT, chkB_bl, seq_t, seq_l, b_add, b_sub, ty_non, ty_bl, ty_int, ty_str, ty_tup, ty_lst, ty_dW, List.map_cons, List.map_nil, List.cons_append, List.nil_append, List.replicate_succ, List.replicate_zero, List.length_cons, List.length_nil, List.set_cons_zero, List.set_cons_succ, bnd_ok, bnd_bnd, noex_ok, opt_some, Option.map_some, Option.bind_some, List.getElem?_cons_zero, List.getElem?_cons_succ, ixD_0, ixD_1, ixD_2, cmpD_in, cmpD_inL, cmpD_not, cmpD_notL, cmpD_eq, cmpD_ne, cmpD_lt, cmpD_gt, cmpD_le, cmpD_ge, big0, big1, big2, big3, big4, big5, big6, big7, if_true, if_false, Nat.reduceAdd, Nat.reduceSub, Nat.reduceLT, ↓reduceIte, dec_lt, dec_le, dec_eq, eq_int, lst_of, Bool.false_eq_true, d_near, b_near, range_int n hn', List.length_map, List.length_range, hn']
  refine lc_run (g := dN) (p := fun b => adj T a b) (h := dN) (fun b _ => ?_) ?_
  · simp only [startR, exSs, exS, evE, evEs, evI, evO, evC, getR_0, getR_s, setR, tgR, wipeR, idx_tup, idx_lst, idx_dW0, idx_dW1, bi_len_t, bi_len_l, bi_all, bi_any, bi_min2, bi_max2, bi_tuple_l, bi_tuple_t, bi_list_l, bi_list_t, bi_int, bi_srt_l, bi_srt_t, bi_sset, bi_ssetT, chkB_bl, seq_t, seq_l, b_add, b_sub, ty_non, ty_bl, ty_int, ty_str, ty_tup, ty_lst, ty_dW, List.map_cons, List.map_nil, List.cons_append, List.nil_append, List.replicate_succ, List.replicate_zero, List.length_cons, List.length_nil, List.set_cons_zero, List.set_cons_succ, bnd_ok, bnd_bnd, noex_ok, opt_some, Option.map_some, Option.bind_some, List.getElem?_cons_zero, List.getElem?_cons_succ, ixD_0, ixD_1, ixD_2, cmpD_in, cmpD_inL, cmpD_not, cmpD_notL, cmpD_eq, cmpD_ne, cmpD_lt, cmpD_gt, cmpD_le, cmpD_ge, big0, big1, big2, big3, big4, big5, big6, big7, if_true, if_false, Nat.reduceAdd, Nat.reduceSub, Nat.reduceLT, ↓reduceIte, dec_lt, dec_le, dec_eq, eq_int, lst_of, Bool.false_eq_true, m_are_tied]
    cases adj T a b <;> rfl
  · rfl
theorem m_all_pairs {k n : Nat} {s : S} (hn : n ≤ 7) : calD ds (k + 1) 5 [.int (n : Int)] s = .ok (.lst ((prs n).map dP)) s := by
  have hn' : n ≤ big := by unfold big; omega
  rw [cal_at (d := d_all_pairs) rfl rfl]
  simp only [startR, exSs, exS, evE, evEs, evI, evO, evC, getR_0, getR_s, setR, tgR, wipeR, idx_tup, idx_lst, idx_dW0, idx_dW1, bi_len_t, bi_len_l, bi_all, bi_any, bi_min2, bi_max2, bi_tuple_l, bi_tuple_t, bi_list_l, bi_list_t, bi_int, bi_srt_l, bi_srt_t, bi_sset, bi_ssetT, chkB_bl, seq_t, seq_l, b_add, b_sub, ty_non, ty_bl, ty_int, ty_str, ty_tup, ty_lst, ty_dW, List.map_cons, List.map_nil, List.cons_append, List.nil_append, List.replicate_succ, List.replicate_zero, List.length_cons, List.length_nil, List.set_cons_zero, List.set_cons_succ, bnd_ok, bnd_bnd, noex_ok, opt_some, Option.map_some, Option.bind_some, List.getElem?_cons_zero, List.getElem?_cons_succ, ixD_0, ixD_1, ixD_2, cmpD_in, cmpD_inL, cmpD_not, cmpD_notL, cmpD_eq, cmpD_ne, cmpD_lt, cmpD_gt, cmpD_le, cmpD_ge, big0, big1, big2, big3, big4, big5, big6, big7, if_true, if_false, Nat.reduceAdd, Nat.reduceSub, Nat.reduceLT, ↓reduceIte, dec_lt, dec_le, dec_eq, eq_int, lst_of, Bool.false_eq_true, d_all_pairs, b_all_pairs, range_int n hn']
  refine for_run (g := dN) (P := fun done r => ∃ x, r = [Sl.v (.int (n : Int)), .v (.lst ((done.flatMap fun a => (List.range (n - (a + 1))).map fun k => (a, a + 1 + k)).map dP)), x, .no]) ⟨_, rfl⟩ (fun a done rest r e h => ?_) (fun r h => ?_)
  · obtain ⟨x, rfl⟩ := h
    have ha : a < n ∧ done.length ≤ 7 := by
      have z : a ∈ List.range n := by rw [e]; simp
      have q : done.length ≤ (List.range n).length := by rw [e]; simp
      rw [List.length_range] at q
      exact ⟨by simpa using z, by omega⟩
    have r2 := range_int2 (a + 1) n (by unfold big; omega) hn'
    simp only [startR, exSs, exS, evE, evEs, evI, evO, evC, getR_0, getR_s, setR, tgR, wipeR, idx_tup, idx_lst, idx_dW0, idx_dW1, bi_len_t, bi_len_l, bi_all, bi_any, bi_min2, bi_max2, bi_tuple_l, bi_tuple_t, bi_list_l, bi_list_t, bi_int, bi_srt_l, bi_srt_t, bi_sset, bi_ssetT, chkB_bl, seq_t, seq_l, b_add, b_sub, ty_non, ty_bl, ty_int, ty_str, ty_tup, ty_lst, ty_dW, List.map_cons, List.map_nil, List.cons_append, List.nil_append, List.replicate_succ, List.replicate_zero, List.length_cons, List.length_nil, List.set_cons_zero, List.set_cons_succ, bnd_ok, bnd_bnd, noex_ok, opt_some, Option.map_some, Option.bind_some, List.getElem?_cons_zero, List.getElem?_cons_succ, ixD_0, ixD_1, ixD_2, cmpD_in, cmpD_inL, cmpD_not, cmpD_notL, cmpD_eq, cmpD_ne, cmpD_lt, cmpD_gt, cmpD_le, cmpD_ge, big0, big1, big2, big3, big4, big5, big6, big7, if_true, if_false, Nat.reduceAdd, Nat.reduceSub, Nat.reduceLT, ↓reduceIte, dec_lt, dec_le, dec_eq, eq_int, lst_of, Bool.false_eq_true, show ((a : Int) + 1) = ((a + 1 : Nat) : Int) by omega, r2, List.length_map, List.length_range, show n - (a + 1) ≤ big by omega]
    refine ⟨[.v (.int (n : Int)), .v (.lst (((done ++ [a]).flatMap fun a => (List.range (n - (a + 1))).map fun k => (a, a + 1 + k)).map dP)), .v (dN a), .no], lc_runA (g := fun k => dN (a + 1 + k)) (h := fun k => dP (a, a + 1 + k)) (fun k _ => rfl) ?_, _, rfl⟩
    have hb : (done.flatMap fun a => (List.range (n - (a + 1))).map fun k => (a, a + 1 + k)).length ≤ done.length * 7 := flat_len fun a _ => by simp; omega
    rw [b_addL (by simp only [List.length_map, List.length_range] at hb ⊢; unfold big; omega)]
    simp only [startR, exSs, exS, evE, evEs, evI, evO, evC, getR_0, getR_s, setR, tgR, wipeR, idx_tup, idx_lst, idx_dW0, idx_dW1, bi_len_t, bi_len_l, bi_all, bi_any, bi_min2, bi_max2, bi_tuple_l, bi_tuple_t, bi_list_l, bi_list_t, bi_int, bi_srt_l, bi_srt_t, bi_sset, bi_ssetT, chkB_bl, seq_t, seq_l, b_add, b_sub, ty_non, ty_bl, ty_int, ty_str, ty_tup, ty_lst, ty_dW, List.map_cons, List.map_nil, List.cons_append, List.nil_append, List.replicate_succ, List.replicate_zero, List.length_cons, List.length_nil, List.set_cons_zero, List.set_cons_succ, bnd_ok, bnd_bnd, noex_ok, opt_some, Option.map_some, Option.bind_some, List.getElem?_cons_zero, List.getElem?_cons_succ, ixD_0, ixD_1, ixD_2, cmpD_in, cmpD_inL, cmpD_not, cmpD_notL, cmpD_eq, cmpD_ne, cmpD_lt, cmpD_gt, cmpD_le, cmpD_ge, big0, big1, big2, big3, big4, big5, big6, big7, if_true, if_false, Nat.reduceAdd, Nat.reduceSub, Nat.reduceLT, ↓reduceIte, dec_lt, dec_le, dec_eq, eq_int, lst_of, Bool.false_eq_true, List.flatMap_append, List.map_append, List.flatMap_cons, List.flatMap_nil, List.append_nil, List.map_map]
    rfl
  · obtain ⟨x, rfl⟩ := h
    simp only [startR, exSs, exS, evE, evEs, evI, evO, evC, getR_0, getR_s, setR, tgR, wipeR, idx_tup, idx_lst, idx_dW0, idx_dW1, bi_len_t, bi_len_l, bi_all, bi_any, bi_min2, bi_max2, bi_tuple_l, bi_tuple_t, bi_list_l, bi_list_t, bi_int, bi_srt_l, bi_srt_t, bi_sset, bi_ssetT, chkB_bl, seq_t, seq_l, b_add, b_sub, ty_non, ty_bl, ty_int, ty_str, ty_tup, ty_lst, ty_dW, List.map_cons, List.map_nil, List.cons_append, List.nil_append, List.replicate_succ, List.replicate_zero, List.length_cons, List.length_nil, List.set_cons_zero, List.set_cons_succ, bnd_ok, bnd_bnd, noex_ok, opt_some, Option.map_some, Option.bind_some, List.getElem?_cons_zero, List.getElem?_cons_succ, ixD_0, ixD_1, ixD_2, cmpD_in, cmpD_inL, cmpD_not, cmpD_notL, cmpD_eq, cmpD_ne, cmpD_lt, cmpD_gt, cmpD_le, cmpD_ge, big0, big1, big2, big3, big4, big5, big6, big7, if_true, if_false, Nat.reduceAdd, Nat.reduceSub, Nat.reduceLT, ↓reduceIte, dec_lt, dec_le, dec_eq, eq_int, lst_of, Bool.false_eq_true]
    rfl
theorem m_counter {k n : Nat} {T : List (Nat × Nat)} {s : S} (hn : n ≤ 7) : calD ds (k + 2) 8 [dW n T] s = .ok (dW n ((prs n).filter fun p => decide (p ∉ T))) s := by
  rw [cal_at (d := d_counter) rfl rfl]
  simp only [startR, exSs, exS, evE, evEs, evI, evO, evC, getR_0, getR_s, setR, tgR, wipeR, idx_tup, idx_lst, idx_dW0, idx_dW1, bi_len_t, bi_len_l, bi_all, bi_any, bi_min2, bi_max2, bi_tuple_l, bi_tuple_t, bi_list_l, bi_list_t, bi_int, bi_srt_l, bi_srt_t, bi_sset, bi_ssetT, chkB_bl, seq_t, seq_l, b_add, b_sub, ty_non, ty_bl, ty_int, ty_str, ty_tup, ty_lst, ty_dW, List.map_cons, List.map_nil, List.cons_append, List.nil_append, List.replicate_succ, List.replicate_zero, List.length_cons, List.length_nil, List.set_cons_zero, List.set_cons_succ, bnd_ok, bnd_bnd, noex_ok, opt_some, Option.map_some, Option.bind_some, List.getElem?_cons_zero, List.getElem?_cons_succ, ixD_0, ixD_1, ixD_2, cmpD_in, cmpD_inL, cmpD_not, cmpD_notL, cmpD_eq, cmpD_ne, cmpD_lt, cmpD_gt, cmpD_le, cmpD_ge, big0, big1, big2, big3, big4, big5, big6, big7, if_true, if_false, Nat.reduceAdd, Nat.reduceSub, Nat.reduceLT, ↓reduceIte, dec_lt, dec_le, dec_eq, eq_int, lst_of, Bool.false_eq_true, d_counter, b_counter, m_all_pairs hn, List.length_map, prs_big hn]
  refine lc_run (g := dP) (p := fun p => decide (p ∉ T)) (h := dP) (fun p _ => ?_) ?_
  · simp only [startR, exSs, exS, evE, evEs, evI, evO, evC, getR_0, getR_s, setR, tgR, wipeR, idx_tup, idx_lst, idx_dW0, idx_dW1, bi_len_t, bi_len_l, bi_all, bi_any, bi_min2, bi_max2, bi_tuple_l, bi_tuple_t, bi_list_l, bi_list_t, bi_int, bi_srt_l, bi_srt_t, bi_sset, bi_ssetT, chkB_bl, seq_t, seq_l, b_add, b_sub, ty_non, ty_bl, ty_int, ty_str, ty_tup, ty_lst, ty_dW, List.map_cons, List.map_nil, List.cons_append, List.nil_append, List.replicate_succ, List.replicate_zero, List.length_cons, List.length_nil, List.set_cons_zero, List.set_cons_succ, bnd_ok, bnd_bnd, noex_ok, opt_some, Option.map_some, Option.bind_some, List.getElem?_cons_zero, List.getElem?_cons_succ, ixD_0, ixD_1, ixD_2, cmpD_in, cmpD_inL, cmpD_not, cmpD_notL, cmpD_eq, cmpD_ne, cmpD_lt, cmpD_gt, cmpD_le, cmpD_ge, big0, big1, big2, big3, big4, big5, big6, big7, if_true, if_false, Nat.reduceAdd, Nat.reduceSub, Nat.reduceLT, ↓reduceIte, dec_lt, dec_le, dec_eq, eq_int, lst_of, Bool.false_eq_true, in_dP]
    by_cases h : p ∈ T <;> simp [h]
  · rfl
theorem m_longer {k n : Nat} {T : List (Nat × Nat)} {rows : List (List Nat)} {s : S} (hn : n ≤ 7) (hr : ∀ r ∈ rows, r ≠ [] ∧ r.length ≤ 100) (hl : rows.length ≤ 117649) : calD ds (k + 3) 9 [dW n T, .lst (rows.map dR)] s = .ok (.lst ((rows.flatMap (ext n T)).map dR)) s := by
  rw [cal_at (d := d_longer) rfl rfl]
  simp only [startR, exSs, exS, evE, evEs, evI, evO, evC, getR_0, getR_s, setR, tgR, wipeR, idx_tup, idx_lst, idx_dW0, idx_dW1, bi_len_t, bi_len_l, bi_all, bi_any, bi_min2, bi_max2, bi_tuple_l, bi_tuple_t, bi_list_l, bi_list_t, bi_int, bi_srt_l, bi_srt_t, bi_sset, bi_ssetT, chkB_bl, seq_t, seq_l, b_add, b_sub, ty_non, ty_bl, ty_int, ty_str, ty_tup, ty_lst, ty_dW, List.map_cons, List.map_nil, List.cons_append, List.nil_append, List.replicate_succ, List.replicate_zero, List.length_cons, List.length_nil, List.set_cons_zero, List.set_cons_succ, bnd_ok, bnd_bnd, noex_ok, opt_some, Option.map_some, Option.bind_some, List.getElem?_cons_zero, List.getElem?_cons_succ, ixD_0, ixD_1, ixD_2, cmpD_in, cmpD_inL, cmpD_not, cmpD_notL, cmpD_eq, cmpD_ne, cmpD_lt, cmpD_gt, cmpD_le, cmpD_ge, big0, big1, big2, big3, big4, big5, big6, big7, if_true, if_false, Nat.reduceAdd, Nat.reduceSub, Nat.reduceLT, ↓reduceIte, dec_lt, dec_le, dec_eq, eq_int, lst_of, Bool.false_eq_true, d_longer, b_longer]
  refine for_run (g := dR) (P := fun done r => ∃ x y, r = [Sl.v (dW n T), .v (.lst (rows.map dR)), .v (.lst ((done.flatMap (ext n T)).map dR)), x, y, .no, .no]) ⟨_, _, rfl⟩ (fun row done rest r e h => ?_) (fun r h => ?_)
  · obtain ⟨x, y, rfl⟩ := h
    have hm : row ∈ rows := by rw [e]; simp
    obtain ⟨hne, hrl⟩ := hr row hm
    have hd : done.length + 1 ≤ 117649 := by have := congrArg List.length e; simp at this; omega
    have hb : ((List.range n).filter fun b => adj T (lastN row) b).length ≤ big := by
      have := filt_len (fun b => adj T (lastN row) b) (List.range n)
      rw [List.length_range] at this
      unfold big; omega
    refine ⟨[Sl.v (dW n T), .v (.lst (rows.map dR)), .v (.lst (((done ++ [row]).flatMap (ext n T)).map dR)), .v (dR row), .v (.lst ((((List.range n).filter fun b => adj T (lastN row) b).filter fun b => decide (b ∉ row)).map dN)), .no, .no], ?_, _, _, rfl⟩
    simp only [startR, exSs, exS, evE, evEs, evI, evO, evC, getR_0, getR_s, setR, tgR, wipeR, idx_tup, idx_lst, idx_dW0, idx_dW1, bi_len_t, bi_len_l, bi_all, bi_any, bi_min2, bi_max2, bi_tuple_l, bi_tuple_t, bi_list_l, bi_list_t, bi_int, bi_srt_l, bi_srt_t, bi_sset, bi_ssetT, chkB_bl, seq_t, seq_l, b_add, b_sub, ty_non, ty_bl, ty_int, ty_str, ty_tup, ty_lst, ty_dW, List.map_cons, List.map_nil, List.cons_append, List.nil_append, List.replicate_succ, List.replicate_zero, List.length_cons, List.length_nil, List.set_cons_zero, List.set_cons_succ, bnd_ok, bnd_bnd, noex_ok, opt_some, Option.map_some, Option.bind_some, List.getElem?_cons_zero, List.getElem?_cons_succ, ixD_0, ixD_1, ixD_2, cmpD_in, cmpD_inL, cmpD_not, cmpD_notL, cmpD_eq, cmpD_ne, cmpD_lt, cmpD_gt, cmpD_le, cmpD_ge, big0, big1, big2, big3, big4, big5, big6, big7, if_true, if_false, Nat.reduceAdd, Nat.reduceSub, Nat.reduceLT, ↓reduceIte, dec_lt, dec_le, dec_eq, eq_int, lst_of, Bool.false_eq_true, last_dR hne, m_near hn]
    simp only [startR, exSs, exS, evE, evEs, evI, evO, evC, getR_0, getR_s, setR, tgR, wipeR, idx_tup, idx_lst, idx_dW0, idx_dW1, bi_len_t, bi_len_l, bi_all, bi_any, bi_min2, bi_max2, bi_tuple_l, bi_tuple_t, bi_list_l, bi_list_t, bi_int, bi_srt_l, bi_srt_t, bi_sset, bi_ssetT, chkB_bl, seq_t, seq_l, b_add, b_sub, ty_non, ty_bl, ty_int, ty_str, ty_tup, ty_lst, ty_dW, List.map_cons, List.map_nil, List.cons_append, List.nil_append, List.replicate_succ, List.replicate_zero, List.length_cons, List.length_nil, List.set_cons_zero, List.set_cons_succ, bnd_ok, bnd_bnd, noex_ok, opt_some, Option.map_some, Option.bind_some, List.getElem?_cons_zero, List.getElem?_cons_succ, ixD_0, ixD_1, ixD_2, cmpD_in, cmpD_inL, cmpD_not, cmpD_notL, cmpD_eq, cmpD_ne, cmpD_lt, cmpD_gt, cmpD_le, cmpD_ge, big0, big1, big2, big3, big4, big5, big6, big7, if_true, if_false, Nat.reduceAdd, Nat.reduceSub, Nat.reduceLT, ↓reduceIte, dec_lt, dec_le, dec_eq, eq_int, lst_of, Bool.false_eq_true, dR, List.length_map, hb]
    refine lc_run (g := dN) (p := fun b => decide (b ∉ row)) (h := dN) (fun b _ => ?_) ?_
    · simp only [startR, exSs, exS, evE, evEs, evI, evO, evC, getR_0, getR_s, setR, tgR, wipeR, idx_tup, idx_lst, idx_dW0, idx_dW1, bi_len_t, bi_len_l, bi_all, bi_any, bi_min2, bi_max2, bi_tuple_l, bi_tuple_t, bi_list_l, bi_list_t, bi_int, bi_srt_l, bi_srt_t, bi_sset, bi_ssetT, chkB_bl, seq_t, seq_l, b_add, b_sub, ty_non, ty_bl, ty_int, ty_str, ty_tup, ty_lst, ty_dW, List.map_cons, List.map_nil, List.cons_append, List.nil_append, List.replicate_succ, List.replicate_zero, List.length_cons, List.length_nil, List.set_cons_zero, List.set_cons_succ, bnd_ok, bnd_bnd, noex_ok, opt_some, Option.map_some, Option.bind_some, List.getElem?_cons_zero, List.getElem?_cons_succ, ixD_0, ixD_1, ixD_2, cmpD_in, cmpD_inL, cmpD_not, cmpD_notL, cmpD_eq, cmpD_ne, cmpD_lt, cmpD_gt, cmpD_le, cmpD_ge, big0, big1, big2, big3, big4, big5, big6, big7, if_true, if_false, Nat.reduceAdd, Nat.reduceSub, Nat.reduceLT, ↓reduceIte, dec_lt, dec_le, dec_eq, eq_int, lst_of, Bool.false_eq_true, in_dN]
      by_cases h : b ∈ row <;> simp [h]
    · have hb2 : (((List.range n).filter fun b => adj T (lastN row) b).filter fun b => decide (b ∉ row)).length ≤ big := Nat.le_trans (filt_len _ _) hb
      simp only [startR, exSs, exS, evE, evEs, evI, evO, evC, getR_0, getR_s, setR, tgR, wipeR, idx_tup, idx_lst, idx_dW0, idx_dW1, bi_len_t, bi_len_l, bi_all, bi_any, bi_min2, bi_max2, bi_tuple_l, bi_tuple_t, bi_list_l, bi_list_t, bi_int, bi_srt_l, bi_srt_t, bi_sset, bi_ssetT, chkB_bl, seq_t, seq_l, b_add, b_sub, ty_non, ty_bl, ty_int, ty_str, ty_tup, ty_lst, ty_dW, List.map_cons, List.map_nil, List.cons_append, List.nil_append, List.replicate_succ, List.replicate_zero, List.length_cons, List.length_nil, List.set_cons_zero, List.set_cons_succ, bnd_ok, bnd_bnd, noex_ok, opt_some, Option.map_some, Option.bind_some, List.getElem?_cons_zero, List.getElem?_cons_succ, ixD_0, ixD_1, ixD_2, cmpD_in, cmpD_inL, cmpD_not, cmpD_notL, cmpD_eq, cmpD_ne, cmpD_lt, cmpD_gt, cmpD_le, cmpD_ge, big0, big1, big2, big3, big4, big5, big6, big7, if_true, if_false, Nat.reduceAdd, Nat.reduceSub, Nat.reduceLT, ↓reduceIte, dec_lt, dec_le, dec_eq, eq_int, lst_of, Bool.false_eq_true, List.length_map, hb2]
      refine lc_run (g := dN) (p := fun b => !((midN row).any fun c => adj T b c)) (h := fun b => dR (row ++ [b])) (fun b _ => ?_) ?_
      · have hb3 : (midN row).length ≤ big := Nat.le_trans (mid_len row) (by unfold big; omega)
        simp only [startR, exSs, exS, evE, evEs, evI, evO, evC, getR_0, getR_s, setR, tgR, wipeR, idx_tup, idx_lst, idx_dW0, idx_dW1, bi_len_t, bi_len_l, bi_all, bi_any, bi_min2, bi_max2, bi_tuple_l, bi_tuple_t, bi_list_l, bi_list_t, bi_int, bi_srt_l, bi_srt_t, bi_sset, bi_ssetT, chkB_bl, seq_t, seq_l, b_add, b_sub, ty_non, ty_bl, ty_int, ty_str, ty_tup, ty_lst, ty_dW, List.map_cons, List.map_nil, List.cons_append, List.nil_append, List.replicate_succ, List.replicate_zero, List.length_cons, List.length_nil, List.set_cons_zero, List.set_cons_succ, bnd_ok, bnd_bnd, noex_ok, opt_some, Option.map_some, Option.bind_some, List.getElem?_cons_zero, List.getElem?_cons_succ, ixD_0, ixD_1, ixD_2, cmpD_in, cmpD_inL, cmpD_not, cmpD_notL, cmpD_eq, cmpD_ne, cmpD_lt, cmpD_gt, cmpD_le, cmpD_ge, big0, big1, big2, big3, big4, big5, big6, big7, if_true, if_false, Nat.reduceAdd, Nat.reduceSub, Nat.reduceLT, ↓reduceIte, dec_lt, dec_le, dec_eq, eq_int, lst_of, Bool.false_eq_true, slT, cut_mid, List.length_map, hb3]
        rw [lc_mapA (g := dN) (h := fun c => .bl (adj T b c)) (fun c _ => by simp only [startR, exSs, exS, evE, evEs, evI, evO, evC, getR_0, getR_s, setR, tgR, wipeR, idx_tup, idx_lst, idx_dW0, idx_dW1, bi_len_t, bi_len_l, bi_all, bi_any, bi_min2, bi_max2, bi_tuple_l, bi_tuple_t, bi_list_l, bi_list_t, bi_int, bi_srt_l, bi_srt_t, bi_sset, bi_ssetT, chkB_bl, seq_t, seq_l, b_add, b_sub, ty_non, ty_bl, ty_int, ty_str, ty_tup, ty_lst, ty_dW, List.map_cons, List.map_nil, List.cons_append, List.nil_append, List.replicate_succ, List.replicate_zero, List.length_cons, List.length_nil, List.set_cons_zero, List.set_cons_succ, bnd_ok, bnd_bnd, noex_ok, opt_some, Option.map_some, Option.bind_some, List.getElem?_cons_zero, List.getElem?_cons_succ, ixD_0, ixD_1, ixD_2, cmpD_in, cmpD_inL, cmpD_not, cmpD_notL, cmpD_eq, cmpD_ne, cmpD_lt, cmpD_gt, cmpD_le, cmpD_ge, big0, big1, big2, big3, big4, big5, big6, big7, if_true, if_false, Nat.reduceAdd, Nat.reduceSub, Nat.reduceLT, ↓reduceIte, dec_lt, dec_le, dec_eq, eq_int, lst_of, Bool.false_eq_true, m_are_tied])]
        simp only [startR, exSs, exS, evE, evEs, evI, evO, evC, getR_0, getR_s, setR, tgR, wipeR, idx_tup, idx_lst, idx_dW0, idx_dW1, bi_len_t, bi_len_l, bi_all, bi_any, bi_min2, bi_max2, bi_tuple_l, bi_tuple_t, bi_list_l, bi_list_t, bi_int, bi_srt_l, bi_srt_t, bi_sset, bi_ssetT, chkB_bl, seq_t, seq_l, b_add, b_sub, ty_non, ty_bl, ty_int, ty_str, ty_tup, ty_lst, ty_dW, List.map_cons, List.map_nil, List.cons_append, List.nil_append, List.replicate_succ, List.replicate_zero, List.length_cons, List.length_nil, List.set_cons_zero, List.set_cons_succ, bnd_ok, bnd_bnd, noex_ok, opt_some, Option.map_some, Option.bind_some, List.getElem?_cons_zero, List.getElem?_cons_succ, ixD_0, ixD_1, ixD_2, cmpD_in, cmpD_inL, cmpD_not, cmpD_notL, cmpD_eq, cmpD_ne, cmpD_lt, cmpD_gt, cmpD_le, cmpD_ge, big0, big1, big2, big3, big4, big5, big6, big7, if_true, if_false, Nat.reduceAdd, Nat.reduceSub, Nat.reduceLT, ↓reduceIte, dec_lt, dec_le, dec_eq, eq_int, lst_of, Bool.false_eq_true, blsD_map, any_map]
        cases h : (midN row).any fun c => adj T b c with
        | true => simp only [Bool.not_true, startR, exSs, exS, evE, evEs, evI, evO, evC, getR_0, getR_s, setR, tgR, wipeR, idx_tup, idx_lst, idx_dW0, idx_dW1, bi_len_t, bi_len_l, bi_all, bi_any, bi_min2, bi_max2, bi_tuple_l, bi_tuple_t, bi_list_l, bi_list_t, bi_int, bi_srt_l, bi_srt_t, bi_sset, bi_ssetT, chkB_bl, seq_t, seq_l, b_add, b_sub, ty_non, ty_bl, ty_int, ty_str, ty_tup, ty_lst, ty_dW, List.map_cons, List.map_nil, List.cons_append, List.nil_append, List.replicate_succ, List.replicate_zero, List.length_cons, List.length_nil, List.set_cons_zero, List.set_cons_succ, bnd_ok, bnd_bnd, noex_ok, opt_some, Option.map_some, Option.bind_some, List.getElem?_cons_zero, List.getElem?_cons_succ, ixD_0, ixD_1, ixD_2, cmpD_in, cmpD_inL, cmpD_not, cmpD_notL, cmpD_eq, cmpD_ne, cmpD_lt, cmpD_gt, cmpD_le, cmpD_ge, big0, big1, big2, big3, big4, big5, big6, big7, if_true, if_false, Nat.reduceAdd, Nat.reduceSub, Nat.reduceLT, ↓reduceIte, dec_lt, dec_le, dec_eq, eq_int, lst_of, Bool.false_eq_true, Bool.false_eq_true]
        | false => simp only [Bool.not_false, startR, exSs, exS, evE, evEs, evI, evO, evC, getR_0, getR_s, setR, tgR, wipeR, idx_tup, idx_lst, idx_dW0, idx_dW1, bi_len_t, bi_len_l, bi_all, bi_any, bi_min2, bi_max2, bi_tuple_l, bi_tuple_t, bi_list_l, bi_list_t, bi_int, bi_srt_l, bi_srt_t, bi_sset, bi_ssetT, chkB_bl, seq_t, seq_l, b_add, b_sub, ty_non, ty_bl, ty_int, ty_str, ty_tup, ty_lst, ty_dW, List.map_cons, List.map_nil, List.cons_append, List.nil_append, List.replicate_succ, List.replicate_zero, List.length_cons, List.length_nil, List.set_cons_zero, List.set_cons_succ, bnd_ok, bnd_bnd, noex_ok, opt_some, Option.map_some, Option.bind_some, List.getElem?_cons_zero, List.getElem?_cons_succ, ixD_0, ixD_1, ixD_2, cmpD_in, cmpD_inL, cmpD_not, cmpD_notL, cmpD_eq, cmpD_ne, cmpD_lt, cmpD_gt, cmpD_le, cmpD_ge, big0, big1, big2, big3, big4, big5, big6, big7, if_true, if_false, Nat.reduceAdd, Nat.reduceSub, Nat.reduceLT, ↓reduceIte, dec_lt, dec_le, dec_eq, eq_int, lst_of, Bool.false_eq_true, add_rows, show row.length + 1 ≤ big by unfold big; omega]
      · have hb4 : (done.flatMap (ext n T)).length ≤ done.length * n := flat_len fun r _ => ext_len r
        have hb5 : (done.length + 1) * n ≤ 117649 * 7 := Nat.mul_le_mul hd hn
        rw [Nat.add_mul] at hb5
        have hb6 := ext_len (n := n) (T := T) row
        have he : ((((List.range n).filter fun b => adj T (lastN row) b).filter fun b => decide (b ∉ row)).filter fun b => !((midN row).any fun c => adj T b c)).map (fun b => dR (row ++ [b])) = (ext n T row).map dR := by
          unfold ext; rw [List.map_map]; rfl
        rw [he, b_addL (by rw [List.length_map, List.length_map]; unfold big; omega)]
        simp only [startR, exSs, exS, evE, evEs, evI, evO, evC, getR_0, getR_s, setR, tgR, wipeR, idx_tup, idx_lst, idx_dW0, idx_dW1, bi_len_t, bi_len_l, bi_all, bi_any, bi_min2, bi_max2, bi_tuple_l, bi_tuple_t, bi_list_l, bi_list_t, bi_int, bi_srt_l, bi_srt_t, bi_sset, bi_ssetT, chkB_bl, seq_t, seq_l, b_add, b_sub, ty_non, ty_bl, ty_int, ty_str, ty_tup, ty_lst, ty_dW, List.map_cons, List.map_nil, List.cons_append, List.nil_append, List.replicate_succ, List.replicate_zero, List.length_cons, List.length_nil, List.set_cons_zero, List.set_cons_succ, bnd_ok, bnd_bnd, noex_ok, opt_some, Option.map_some, Option.bind_some, List.getElem?_cons_zero, List.getElem?_cons_succ, ixD_0, ixD_1, ixD_2, cmpD_in, cmpD_inL, cmpD_not, cmpD_notL, cmpD_eq, cmpD_ne, cmpD_lt, cmpD_gt, cmpD_le, cmpD_ge, big0, big1, big2, big3, big4, big5, big6, big7, if_true, if_false, Nat.reduceAdd, Nat.reduceSub, Nat.reduceLT, ↓reduceIte, dec_lt, dec_le, dec_eq, eq_int, lst_of, Bool.false_eq_true, List.flatMap_append, List.map_append, List.flatMap_cons, List.flatMap_nil, List.append_nil]
  · obtain ⟨x, y, rfl⟩ := h
    simp only [startR, exSs, exS, evE, evEs, evI, evO, evC, getR_0, getR_s, setR, tgR, wipeR, idx_tup, idx_lst, idx_dW0, idx_dW1, bi_len_t, bi_len_l, bi_all, bi_any, bi_min2, bi_max2, bi_tuple_l, bi_tuple_t, bi_list_l, bi_list_t, bi_int, bi_srt_l, bi_srt_t, bi_sset, bi_ssetT, chkB_bl, seq_t, seq_l, b_add, b_sub, ty_non, ty_bl, ty_int, ty_str, ty_tup, ty_lst, ty_dW, List.map_cons, List.map_nil, List.cons_append, List.nil_append, List.replicate_succ, List.replicate_zero, List.length_cons, List.length_nil, List.set_cons_zero, List.set_cons_succ, bnd_ok, bnd_bnd, noex_ok, opt_some, Option.map_some, Option.bind_some, List.getElem?_cons_zero, List.getElem?_cons_succ, ixD_0, ixD_1, ixD_2, cmpD_in, cmpD_inL, cmpD_not, cmpD_notL, cmpD_eq, cmpD_ne, cmpD_lt, cmpD_gt, cmpD_le, cmpD_ge, big0, big1, big2, big3, big4, big5, big6, big7, if_true, if_false, Nat.reduceAdd, Nat.reduceSub, Nat.reduceLT, ↓reduceIte, dec_lt, dec_le, dec_eq, eq_int, lst_of, Bool.false_eq_true]
theorem m_holes_of {k n : Nat} {T : List (Nat × Nat)} {s : S} (h0 : 1 ≤ n) (hn : n ≤ 7) : calD ds (k + 4) 10 [dW n T] s = .ok (.lst ((holesL n T).map dR)) s := by
  have hn' : n ≤ big := by unfold big; omega
  rw [cal_at (d := d_holes_of) rfl rfl]
  have r2 := range_int2 2 (n + 1) (by unfold big; omega) (by unfold big; omega)
  simp only [startR, exSs, exS, evE, evEs, evI, evO, evC, getR_0, getR_s, setR, tgR, wipeR, idx_tup, idx_lst, idx_dW0, idx_dW1, bi_len_t, bi_len_l, bi_all, bi_any, bi_min2, bi_max2, bi_tuple_l, bi_tuple_t, bi_list_l, bi_list_t, bi_int, bi_srt_l, bi_srt_t, bi_sset, bi_ssetT, chkB_bl, seq_t, seq_l, b_add, b_sub, ty_non, ty_bl, ty_int, ty_str, ty_tup, ty_lst, ty_dW, List.map_cons, List.map_nil, List.cons_append, List.nil_append, List.replicate_succ, List.replicate_zero, List.length_cons, List.length_nil, List.set_cons_zero, List.set_cons_succ, bnd_ok, bnd_bnd, noex_ok, opt_some, Option.map_some, Option.bind_some, List.getElem?_cons_zero, List.getElem?_cons_succ, ixD_0, ixD_1, ixD_2, cmpD_in, cmpD_inL, cmpD_not, cmpD_notL, cmpD_eq, cmpD_ne, cmpD_lt, cmpD_gt, cmpD_le, cmpD_ge, big0, big1, big2, big3, big4, big5, big6, big7, if_true, if_false, Nat.reduceAdd, Nat.reduceSub, Nat.reduceLT, ↓reduceIte, dec_lt, dec_le, dec_eq, eq_int, lst_of, Bool.false_eq_true, d_holes_of, b_holes_of, range_int n hn', List.length_map, List.length_range, hn']
  refine lc_runA (g := dN) (h := fun a => dR [a]) (fun a _ => rfl) ?_
  simp only [startR, exSs, exS, evE, evEs, evI, evO, evC, getR_0, getR_s, setR, tgR, wipeR, idx_tup, idx_lst, idx_dW0, idx_dW1, bi_len_t, bi_len_l, bi_all, bi_any, bi_min2, bi_max2, bi_tuple_l, bi_tuple_t, bi_list_l, bi_list_t, bi_int, bi_srt_l, bi_srt_t, bi_sset, bi_ssetT, chkB_bl, seq_t, seq_l, b_add, b_sub, ty_non, ty_bl, ty_int, ty_str, ty_tup, ty_lst, ty_dW, List.map_cons, List.map_nil, List.cons_append, List.nil_append, List.replicate_succ, List.replicate_zero, List.length_cons, List.length_nil, List.set_cons_zero, List.set_cons_succ, bnd_ok, bnd_bnd, noex_ok, opt_some, Option.map_some, Option.bind_some, List.getElem?_cons_zero, List.getElem?_cons_succ, ixD_0, ixD_1, ixD_2, cmpD_in, cmpD_inL, cmpD_not, cmpD_notL, cmpD_eq, cmpD_ne, cmpD_lt, cmpD_gt, cmpD_le, cmpD_ge, big0, big1, big2, big3, big4, big5, big6, big7, if_true, if_false, Nat.reduceAdd, Nat.reduceSub, Nat.reduceLT, ↓reduceIte, dec_lt, dec_le, dec_eq, eq_int, lst_of, Bool.false_eq_true, show ((n : Int) + 1) = ((n + 1 : Nat) : Int) by omega, show (2 : Int) = ((2 : Nat) : Int) by rfl, r2]
  refine for_run (g := fun k => dN (2 + k)) (P := fun done r => ∃ x, (∀ row ∈ (hFold n T done).2, row.length = done.length + 1) ∧ (hFold n T done).2.length ≤ 7 ^ (done.length + 1) ∧ 6 * (hFold n T done).1.length ≤ 7 * 7 ^ (done.length + 1) ∧
    r = [Sl.v (dW n T), .v (.lst ((hFold n T done).1.map dR)), .v (.lst ((hFold n T done).2.map dR)), x, .no, .no]) ?_ (fun a done rest r e h => ?_) (fun r h => ?_)
  · refine ⟨.no, ?_, ?_, ?_, ?_⟩
    · intro row hr
      obtain ⟨a, _, rfl⟩ := List.mem_map.mp hr
      rfl
    · show ((List.range n).map fun a => [a]).length ≤ 7
      rw [List.length_map, List.length_range]; exact hn
    · show 6 * 0 ≤ _
      omega
    · show _ = [Sl.v (dW n T), .v (.lst []), .v (.lst (((List.range n).map fun a => [a]).map dR)), .no, .no, .no]
      rw [List.map_map]; rfl
  · obtain ⟨x, h1, h2, h3, rfl⟩ := h
    have ha : a = done.length := range_mid e
    have hd : done.length + 1 ≤ n - 1 := by have := congrArg List.length e; simp at this; omega
    generalize hst : hFold n T done = st at h1 h2 h3
    obtain ⟨F, R⟩ := st
    dsimp only at h1 h2 h3
    have hR : R.length ≤ 117649 := Nat.le_trans h2 (Nat.le_trans (Nat.pow_le_pow_right (by omega) (show done.length + 1 ≤ 6 by omega)) (by decide))
    have hne : ∀ r ∈ R, r ≠ [] ∧ r.length ≤ 100 := fun r hr => by
      have := h1 r hr
      refine ⟨fun z => by rw [z] at this; simp at this, by omega⟩
    simp only [startR, exSs, exS, evE, evEs, evI, evO, evC, getR_0, getR_s, setR, tgR, wipeR, idx_tup, idx_lst, idx_dW0, idx_dW1, bi_len_t, bi_len_l, bi_all, bi_any, bi_min2, bi_max2, bi_tuple_l, bi_tuple_t, bi_list_l, bi_list_t, bi_int, bi_srt_l, bi_srt_t, bi_sset, bi_ssetT, chkB_bl, seq_t, seq_l, b_add, b_sub, ty_non, ty_bl, ty_int, ty_str, ty_tup, ty_lst, ty_dW, List.map_cons, List.map_nil, List.cons_append, List.nil_append, List.replicate_succ, List.replicate_zero, List.length_cons, List.length_nil, List.set_cons_zero, List.set_cons_succ, bnd_ok, bnd_bnd, noex_ok, opt_some, Option.map_some, Option.bind_some, List.getElem?_cons_zero, List.getElem?_cons_succ, ixD_0, ixD_1, ixD_2, cmpD_in, cmpD_inL, cmpD_not, cmpD_notL, cmpD_eq, cmpD_ne, cmpD_lt, cmpD_gt, cmpD_le, cmpD_ge, big0, big1, big2, big3, big4, big5, big6, big7, if_true, if_false, Nat.reduceAdd, Nat.reduceSub, Nat.reduceLT, ↓reduceIte, dec_lt, dec_le, dec_eq, eq_int, lst_of, Bool.false_eq_true, m_longer hn hne hR]
    have m0 : ∀ r ∈ R.flatMap (ext n T), r.length = done.length + 2 := fun r hr => by
      obtain ⟨row, q1, q2⟩ := List.mem_flatMap.mp hr
      obtain ⟨b, rfl, _⟩ := ext_mem q2
      rw [List.length_append, h1 row q1]; rfl
    have l0 : (R.flatMap (ext n T)).length ≤ 7 ^ (done.length + 2) := by
      have z := flat_len (l := R) (f := ext n T) (m := 7) fun r _ => Nat.le_trans (ext_len r) hn
      rw [Nat.pow_succ 7 (done.length + 1)]
      exact Nat.le_trans z (Nat.mul_le_mul_right 7 h2)
    have p7 : 7 ^ (done.length + 2) ≤ 823543 := Nat.le_trans (Nat.pow_le_pow_right (by omega) (show done.length + 2 ≤ 7 by omega)) (by decide)
    have p6 : 7 ^ (done.length + 1) ≤ 117649 := Nat.le_trans (Nat.pow_le_pow_right (by omega) (show done.length + 1 ≤ 6 by omega)) (by decide)
    have p8 : 7 ^ (done.length + 2) = 7 ^ (done.length + 1) * 7 := Nat.pow_succ 7 (done.length + 1)
    have bg : big = 1000000 := rfl
    have b0 : (R.flatMap (ext n T)).length ≤ big := by omega
    generalize hR0 : R.flatMap (ext n T) = R0 at m0 l0 b0
    have nz : ∀ r ∈ R0, r ≠ [] := fun r hr z => by have := m0 r hr; rw [z] at this; simp at this
    simp only [startR, exSs, exS, evE, evEs, evI, evO, evC, getR_0, getR_s, setR, tgR, wipeR, idx_tup, idx_lst, idx_dW0, idx_dW1, bi_len_t, bi_len_l, bi_all, bi_any, bi_min2, bi_max2, bi_tuple_l, bi_tuple_t, bi_list_l, bi_list_t, bi_int, bi_srt_l, bi_srt_t, bi_sset, bi_ssetT, chkB_bl, seq_t, seq_l, b_add, b_sub, ty_non, ty_bl, ty_int, ty_str, ty_tup, ty_lst, ty_dW, List.map_cons, List.map_nil, List.cons_append, List.nil_append, List.replicate_succ, List.replicate_zero, List.length_cons, List.length_nil, List.set_cons_zero, List.set_cons_succ, bnd_ok, bnd_bnd, noex_ok, opt_some, Option.map_some, Option.bind_some, List.getElem?_cons_zero, List.getElem?_cons_succ, ixD_0, ixD_1, ixD_2, cmpD_in, cmpD_inL, cmpD_not, cmpD_notL, cmpD_eq, cmpD_ne, cmpD_lt, cmpD_gt, cmpD_le, cmpD_ge, big0, big1, big2, big3, big4, big5, big6, big7, if_true, if_false, Nat.reduceAdd, Nat.reduceSub, Nat.reduceLT, ↓reduceIte, dec_lt, dec_le, dec_eq, eq_int, lst_of, Bool.false_eq_true, List.length_map, b0]
    refine ⟨[Sl.v (dW n T), .v (.lst ((hStep n T (F, R) a).1.map dR)), .v (.lst ((hStep n T (F, R) a).2.map dR)), .v (dN (2 + a)), .no, .no], lc_run (g := dR) (p := fun r => decide (headN r < lastN r)) (h := dR) (fun r hr => ?_) ?_, ?_⟩
    · simp only [startR, exSs, exS, evE, evEs, evI, evO, evC, getR_0, getR_s, setR, tgR, wipeR, idx_tup, idx_lst, idx_dW0, idx_dW1, bi_len_t, bi_len_l, bi_all, bi_any, bi_min2, bi_max2, bi_tuple_l, bi_tuple_t, bi_list_l, bi_list_t, bi_int, bi_srt_l, bi_srt_t, bi_sset, bi_ssetT, chkB_bl, seq_t, seq_l, b_add, b_sub, ty_non, ty_bl, ty_int, ty_str, ty_tup, ty_lst, ty_dW, List.map_cons, List.map_nil, List.cons_append, List.nil_append, List.replicate_succ, List.replicate_zero, List.length_cons, List.length_nil, List.set_cons_zero, List.set_cons_succ, bnd_ok, bnd_bnd, noex_ok, opt_some, Option.map_some, Option.bind_some, List.getElem?_cons_zero, List.getElem?_cons_succ, ixD_0, ixD_1, ixD_2, cmpD_in, cmpD_inL, cmpD_not, cmpD_notL, cmpD_eq, cmpD_ne, cmpD_lt, cmpD_gt, cmpD_le, cmpD_ge, big0, big1, big2, big3, big4, big5, big6, big7, if_true, if_false, Nat.reduceAdd, Nat.reduceSub, Nat.reduceLT, ↓reduceIte, dec_lt, dec_le, dec_eq, eq_int, lst_of, Bool.false_eq_true, last_dR (nz r hr), idx0_dR (nz r hr)]
      by_cases z : headN r < lastN r <;> simp [z]
    · generalize hR1 : R0.filter (fun r => decide (headN r < lastN r)) = R1
      have m1 : ∀ r ∈ R1, r ∈ R0 := fun r hr => by rw [← hR1] at hr; exact (List.mem_filter.mp hr).1
      have b1 : R1.length ≤ R0.length := by rw [← hR1]; exact filt_len _ _
      have b1' : R1.length ≤ big := by omega
      by_cases h5 : 5 ≤ 2 + a
      · have e5 : decide ((5 : Int) ≤ ((2 + a : Nat) : Int)) = true := decide_eq_true (by omega)
        have g5 : 5 ≤ a + 2 := by omega
        simp only [e5, startR, exSs, exS, evE, evEs, evI, evO, evC, getR_0, getR_s, setR, tgR, wipeR, idx_tup, idx_lst, idx_dW0, idx_dW1, bi_len_t, bi_len_l, bi_all, bi_any, bi_min2, bi_max2, bi_tuple_l, bi_tuple_t, bi_list_l, bi_list_t, bi_int, bi_srt_l, bi_srt_t, bi_sset, bi_ssetT, chkB_bl, seq_t, seq_l, b_add, b_sub, ty_non, ty_bl, ty_int, ty_str, ty_tup, ty_lst, ty_dW, List.map_cons, List.map_nil, List.cons_append, List.nil_append, List.replicate_succ, List.replicate_zero, List.length_cons, List.length_nil, List.set_cons_zero, List.set_cons_succ, bnd_ok, bnd_bnd, noex_ok, opt_some, Option.map_some, Option.bind_some, List.getElem?_cons_zero, List.getElem?_cons_succ, ixD_0, ixD_1, ixD_2, cmpD_in, cmpD_inL, cmpD_not, cmpD_notL, cmpD_eq, cmpD_ne, cmpD_lt, cmpD_gt, cmpD_le, cmpD_ge, big0, big1, big2, big3, big4, big5, big6, big7, if_true, if_false, Nat.reduceAdd, Nat.reduceSub, Nat.reduceLT, ↓reduceIte, dec_lt, dec_le, dec_eq, eq_int, lst_of, Bool.false_eq_true, List.length_map, b1']
        refine lc_run (g := dR) (p := fun r => adj T (headN r) (lastN r) && decide (sndN r < lastN r)) (h := dR) (fun r hr => ?_) ?_
        · have nr := nz r (m1 r hr)
          have tr : 2 ≤ r.length := by have := m0 r (m1 r hr); omega
          simp only [startR, exSs, exS, evE, evEs, evI, evO, evC, getR_0, getR_s, setR, tgR, wipeR, idx_tup, idx_lst, idx_dW0, idx_dW1, bi_len_t, bi_len_l, bi_all, bi_any, bi_min2, bi_max2, bi_tuple_l, bi_tuple_t, bi_list_l, bi_list_t, bi_int, bi_srt_l, bi_srt_t, bi_sset, bi_ssetT, chkB_bl, seq_t, seq_l, b_add, b_sub, ty_non, ty_bl, ty_int, ty_str, ty_tup, ty_lst, ty_dW, List.map_cons, List.map_nil, List.cons_append, List.nil_append, List.replicate_succ, List.replicate_zero, List.length_cons, List.length_nil, List.set_cons_zero, List.set_cons_succ, bnd_ok, bnd_bnd, noex_ok, opt_some, Option.map_some, Option.bind_some, List.getElem?_cons_zero, List.getElem?_cons_succ, ixD_0, ixD_1, ixD_2, cmpD_in, cmpD_inL, cmpD_not, cmpD_notL, cmpD_eq, cmpD_ne, cmpD_lt, cmpD_gt, cmpD_le, cmpD_ge, big0, big1, big2, big3, big4, big5, big6, big7, if_true, if_false, Nat.reduceAdd, Nat.reduceSub, Nat.reduceLT, ↓reduceIte, dec_lt, dec_le, dec_eq, eq_int, lst_of, Bool.false_eq_true, last_dR nr, idx0_dR nr, idx1_dR tr, m_are_tied]
          cases adj T (headN r) (lastN r) with
          | true =>
            simp only [Bool.true_and]
            by_cases z : sndN r < lastN r <;> simp [z, chkB]
          | false => rfl
        generalize hS : R1.filter (fun r => adj T (headN r) (lastN r) && decide (sndN r < lastN r)) = S1
        have bS : S1.length ≤ R1.length := by rw [← hS]; exact filt_len _ _
        have nS : ∀ r ∈ S1, r ≠ [] := fun r hr => by rw [← hS] at hr; exact nz r (m1 r (List.mem_filter.mp hr).1)
        simp only [startR, exSs, exS, evE, evEs, evI, evO, evC, getR_0, getR_s, setR, tgR, wipeR, idx_tup, idx_lst, idx_dW0, idx_dW1, bi_len_t, bi_len_l, bi_all, bi_any, bi_min2, bi_max2, bi_tuple_l, bi_tuple_t, bi_list_l, bi_list_t, bi_int, bi_srt_l, bi_srt_t, bi_sset, bi_ssetT, chkB_bl, seq_t, seq_l, b_add, b_sub, ty_non, ty_bl, ty_int, ty_str, ty_tup, ty_lst, ty_dW, List.map_cons, List.map_nil, List.cons_append, List.nil_append, List.replicate_succ, List.replicate_zero, List.length_cons, List.length_nil, List.set_cons_zero, List.set_cons_succ, bnd_ok, bnd_bnd, noex_ok, opt_some, Option.map_some, Option.bind_some, List.getElem?_cons_zero, List.getElem?_cons_succ, ixD_0, ixD_1, ixD_2, cmpD_in, cmpD_inL, cmpD_not, cmpD_notL, cmpD_eq, cmpD_ne, cmpD_lt, cmpD_gt, cmpD_le, cmpD_ge, big0, big1, big2, big3, big4, big5, big6, big7, if_true, if_false, Nat.reduceAdd, Nat.reduceSub, Nat.reduceLT, ↓reduceIte, dec_lt, dec_le, dec_eq, eq_int, lst_of, Bool.false_eq_true, srt_rows nS (by omega), sortD_dR]
        rw [b_addL (by rw [List.length_map, List.length_map, srtR_len]; omega), ← List.map_append]
        simp only [startR, exSs, exS, evE, evEs, evI, evO, evC, getR_0, getR_s, setR, tgR, wipeR, idx_tup, idx_lst, idx_dW0, idx_dW1, bi_len_t, bi_len_l, bi_all, bi_any, bi_min2, bi_max2, bi_tuple_l, bi_tuple_t, bi_list_l, bi_list_t, bi_int, bi_srt_l, bi_srt_t, bi_sset, bi_ssetT, chkB_bl, seq_t, seq_l, b_add, b_sub, ty_non, ty_bl, ty_int, ty_str, ty_tup, ty_lst, ty_dW, List.map_cons, List.map_nil, List.cons_append, List.nil_append, List.replicate_succ, List.replicate_zero, List.length_cons, List.length_nil, List.set_cons_zero, List.set_cons_succ, bnd_ok, bnd_bnd, noex_ok, opt_some, Option.map_some, Option.bind_some, List.getElem?_cons_zero, List.getElem?_cons_succ, ixD_0, ixD_1, ixD_2, cmpD_in, cmpD_inL, cmpD_not, cmpD_notL, cmpD_eq, cmpD_ne, cmpD_lt, cmpD_gt, cmpD_le, cmpD_ge, big0, big1, big2, big3, big4, big5, big6, big7, if_true, if_false, Nat.reduceAdd, Nat.reduceSub, Nat.reduceLT, ↓reduceIte, dec_lt, dec_le, dec_eq, eq_int, lst_of, Bool.false_eq_true, List.length_map, b1']
        refine lc_run (g := dR) (p := fun r => decide (a + 2 = 2) || !adj T (headN r) (lastN r)) (h := dR) (fun r hr => ?_) ?_
        · have nr := nz r (m1 r hr)
          by_cases z : 2 + a = 2
          · have z' : a + 2 = 2 := by omega
            simp only [startR, exSs, exS, evE, evEs, evI, evO, evC, getR_0, getR_s, setR, tgR, wipeR, idx_tup, idx_lst, idx_dW0, idx_dW1, bi_len_t, bi_len_l, bi_all, bi_any, bi_min2, bi_max2, bi_tuple_l, bi_tuple_t, bi_list_l, bi_list_t, bi_int, bi_srt_l, bi_srt_t, bi_sset, bi_ssetT, chkB_bl, seq_t, seq_l, b_add, b_sub, ty_non, ty_bl, ty_int, ty_str, ty_tup, ty_lst, ty_dW, List.map_cons, List.map_nil, List.cons_append, List.nil_append, List.replicate_succ, List.replicate_zero, List.length_cons, List.length_nil, List.set_cons_zero, List.set_cons_succ, bnd_ok, bnd_bnd, noex_ok, opt_some, Option.map_some, Option.bind_some, List.getElem?_cons_zero, List.getElem?_cons_succ, ixD_0, ixD_1, ixD_2, cmpD_in, cmpD_inL, cmpD_not, cmpD_notL, cmpD_eq, cmpD_ne, cmpD_lt, cmpD_gt, cmpD_le, cmpD_ge, big0, big1, big2, big3, big4, big5, big6, big7, if_true, if_false, Nat.reduceAdd, Nat.reduceSub, Nat.reduceLT, ↓reduceIte, dec_lt, dec_le, dec_eq, eq_int, lst_of, Bool.false_eq_true, z, z', decide_true, Bool.true_or, cmpD_eq]
          · have z' : ¬ a + 2 = 2 := by omega
            simp only [startR, exSs, exS, evE, evEs, evI, evO, evC, getR_0, getR_s, setR, tgR, wipeR, idx_tup, idx_lst, idx_dW0, idx_dW1, bi_len_t, bi_len_l, bi_all, bi_any, bi_min2, bi_max2, bi_tuple_l, bi_tuple_t, bi_list_l, bi_list_t, bi_int, bi_srt_l, bi_srt_t, bi_sset, bi_ssetT, chkB_bl, seq_t, seq_l, b_add, b_sub, ty_non, ty_bl, ty_int, ty_str, ty_tup, ty_lst, ty_dW, List.map_cons, List.map_nil, List.cons_append, List.nil_append, List.replicate_succ, List.replicate_zero, List.length_cons, List.length_nil, List.set_cons_zero, List.set_cons_succ, bnd_ok, bnd_bnd, noex_ok, opt_some, Option.map_some, Option.bind_some, List.getElem?_cons_zero, List.getElem?_cons_succ, ixD_0, ixD_1, ixD_2, cmpD_in, cmpD_inL, cmpD_not, cmpD_notL, cmpD_eq, cmpD_ne, cmpD_lt, cmpD_gt, cmpD_le, cmpD_ge, big0, big1, big2, big3, big4, big5, big6, big7, if_true, if_false, Nat.reduceAdd, Nat.reduceSub, Nat.reduceLT, ↓reduceIte, dec_lt, dec_le, dec_eq, eq_int, lst_of, Bool.false_eq_true, z, z', decide_false, Bool.false_or, last_dR nr, idx0_dR nr, m_are_tied]
            cases adj T (headN r) (lastN r) <;> rfl
        · simp only [startR, exSs, exS, evE, evEs, evI, evO, evC, getR_0, getR_s, setR, tgR, wipeR, idx_tup, idx_lst, idx_dW0, idx_dW1, bi_len_t, bi_len_l, bi_all, bi_any, bi_min2, bi_max2, bi_tuple_l, bi_tuple_t, bi_list_l, bi_list_t, bi_int, bi_srt_l, bi_srt_t, bi_sset, bi_ssetT, chkB_bl, seq_t, seq_l, b_add, b_sub, ty_non, ty_bl, ty_int, ty_str, ty_tup, ty_lst, ty_dW, List.map_cons, List.map_nil, List.cons_append, List.nil_append, List.replicate_succ, List.replicate_zero, List.length_cons, List.length_nil, List.set_cons_zero, List.set_cons_succ, bnd_ok, bnd_bnd, noex_ok, opt_some, Option.map_some, Option.bind_some, List.getElem?_cons_zero, List.getElem?_cons_succ, ixD_0, ixD_1, ixD_2, cmpD_in, cmpD_inL, cmpD_not, cmpD_notL, cmpD_eq, cmpD_ne, cmpD_lt, cmpD_gt, cmpD_le, cmpD_ge, big0, big1, big2, big3, big4, big5, big6, big7, if_true, if_false, Nat.reduceAdd, Nat.reduceSub, Nat.reduceLT, ↓reduceIte, dec_lt, dec_le, dec_eq, eq_int, lst_of, Bool.false_eq_true, hStep, hR0, hR1, g5, hS]
      · have e5 : decide ((5 : Int) ≤ ((2 + a : Nat) : Int)) = false := decide_eq_false (by omega)
        have g5 : ¬ 5 ≤ a + 2 := by omega
        simp only [e5]
        simp only [startR, exSs, exS, evE, evEs, evI, evO, evC, getR_0, getR_s, setR, tgR, wipeR, idx_tup, idx_lst, idx_dW0, idx_dW1, bi_len_t, bi_len_l, bi_all, bi_any, bi_min2, bi_max2, bi_tuple_l, bi_tuple_t, bi_list_l, bi_list_t, bi_int, bi_srt_l, bi_srt_t, bi_sset, bi_ssetT, chkB_bl, seq_t, seq_l, b_add, b_sub, ty_non, ty_bl, ty_int, ty_str, ty_tup, ty_lst, ty_dW, List.map_cons, List.map_nil, List.cons_append, List.nil_append, List.replicate_succ, List.replicate_zero, List.length_cons, List.length_nil, List.set_cons_zero, List.set_cons_succ, bnd_ok, bnd_bnd, noex_ok, opt_some, Option.map_some, Option.bind_some, List.getElem?_cons_zero, List.getElem?_cons_succ, ixD_0, ixD_1, ixD_2, cmpD_in, cmpD_inL, cmpD_not, cmpD_notL, cmpD_eq, cmpD_ne, cmpD_lt, cmpD_gt, cmpD_le, cmpD_ge, big0, big1, big2, big3, big4, big5, big6, big7, if_true, if_false, Nat.reduceAdd, Nat.reduceSub, Nat.reduceLT, ↓reduceIte, dec_lt, dec_le, dec_eq, eq_int, lst_of, Bool.false_eq_true, List.length_map, b1']
        refine lc_run (g := dR) (p := fun r => decide (a + 2 = 2) || !adj T (headN r) (lastN r)) (h := dR) (fun r hr => ?_) ?_
        · have nr := nz r (m1 r hr)
          by_cases z : 2 + a = 2
          · have z' : a + 2 = 2 := by omega
            simp only [startR, exSs, exS, evE, evEs, evI, evO, evC, getR_0, getR_s, setR, tgR, wipeR, idx_tup, idx_lst, idx_dW0, idx_dW1, bi_len_t, bi_len_l, bi_all, bi_any, bi_min2, bi_max2, bi_tuple_l, bi_tuple_t, bi_list_l, bi_list_t, bi_int, bi_srt_l, bi_srt_t, bi_sset, bi_ssetT, chkB_bl, seq_t, seq_l, b_add, b_sub, ty_non, ty_bl, ty_int, ty_str, ty_tup, ty_lst, ty_dW, List.map_cons, List.map_nil, List.cons_append, List.nil_append, List.replicate_succ, List.replicate_zero, List.length_cons, List.length_nil, List.set_cons_zero, List.set_cons_succ, bnd_ok, bnd_bnd, noex_ok, opt_some, Option.map_some, Option.bind_some, List.getElem?_cons_zero, List.getElem?_cons_succ, ixD_0, ixD_1, ixD_2, cmpD_in, cmpD_inL, cmpD_not, cmpD_notL, cmpD_eq, cmpD_ne, cmpD_lt, cmpD_gt, cmpD_le, cmpD_ge, big0, big1, big2, big3, big4, big5, big6, big7, if_true, if_false, Nat.reduceAdd, Nat.reduceSub, Nat.reduceLT, ↓reduceIte, dec_lt, dec_le, dec_eq, eq_int, lst_of, Bool.false_eq_true, z, z', decide_true, Bool.true_or, cmpD_eq]
          · have z' : ¬ a + 2 = 2 := by omega
            simp only [startR, exSs, exS, evE, evEs, evI, evO, evC, getR_0, getR_s, setR, tgR, wipeR, idx_tup, idx_lst, idx_dW0, idx_dW1, bi_len_t, bi_len_l, bi_all, bi_any, bi_min2, bi_max2, bi_tuple_l, bi_tuple_t, bi_list_l, bi_list_t, bi_int, bi_srt_l, bi_srt_t, bi_sset, bi_ssetT, chkB_bl, seq_t, seq_l, b_add, b_sub, ty_non, ty_bl, ty_int, ty_str, ty_tup, ty_lst, ty_dW, List.map_cons, List.map_nil, List.cons_append, List.nil_append, List.replicate_succ, List.replicate_zero, List.length_cons, List.length_nil, List.set_cons_zero, List.set_cons_succ, bnd_ok, bnd_bnd, noex_ok, opt_some, Option.map_some, Option.bind_some, List.getElem?_cons_zero, List.getElem?_cons_succ, ixD_0, ixD_1, ixD_2, cmpD_in, cmpD_inL, cmpD_not, cmpD_notL, cmpD_eq, cmpD_ne, cmpD_lt, cmpD_gt, cmpD_le, cmpD_ge, big0, big1, big2, big3, big4, big5, big6, big7, if_true, if_false, Nat.reduceAdd, Nat.reduceSub, Nat.reduceLT, ↓reduceIte, dec_lt, dec_le, dec_eq, eq_int, lst_of, Bool.false_eq_true, z, z', decide_false, Bool.false_or, last_dR nr, idx0_dR nr, m_are_tied]
            cases adj T (headN r) (lastN r) <;> rfl
        · simp only [startR, exSs, exS, evE, evEs, evI, evO, evC, getR_0, getR_s, setR, tgR, wipeR, idx_tup, idx_lst, idx_dW0, idx_dW1, bi_len_t, bi_len_l, bi_all, bi_any, bi_min2, bi_max2, bi_tuple_l, bi_tuple_t, bi_list_l, bi_list_t, bi_int, bi_srt_l, bi_srt_t, bi_sset, bi_ssetT, chkB_bl, seq_t, seq_l, b_add, b_sub, ty_non, ty_bl, ty_int, ty_str, ty_tup, ty_lst, ty_dW, List.map_cons, List.map_nil, List.cons_append, List.nil_append, List.replicate_succ, List.replicate_zero, List.length_cons, List.length_nil, List.set_cons_zero, List.set_cons_succ, bnd_ok, bnd_bnd, noex_ok, opt_some, Option.map_some, Option.bind_some, List.getElem?_cons_zero, List.getElem?_cons_succ, ixD_0, ixD_1, ixD_2, cmpD_in, cmpD_inL, cmpD_not, cmpD_notL, cmpD_eq, cmpD_ne, cmpD_lt, cmpD_gt, cmpD_le, cmpD_ge, big0, big1, big2, big3, big4, big5, big6, big7, if_true, if_false, Nat.reduceAdd, Nat.reduceSub, Nat.reduceLT, ↓reduceIte, dec_lt, dec_le, dec_eq, eq_int, lst_of, Bool.false_eq_true, hStep, hR0, hR1, g5]
    · have e1 : hFold n T (done ++ [a]) = hStep n T (F, R) a := by rw [hFold_snoc, hst]
      rw [e1]
      have hl : (done ++ [a]).length = done.length + 1 := by rw [List.length_append]; rfl
      rw [hl]
      have b2 : (hStep n T (F, R) a).2.length ≤ R0.length := by
        unfold hStep
        rw [hR0]
        exact Nat.le_trans (filt_len _ _) (filt_len _ _)
      refine ⟨.v (dN (2 + a)), fun row hr => ?_, by omega, ?_, rfl⟩
      · unfold hStep at hr
        rw [hR0] at hr
        exact m0 row (List.mem_filter.mp (List.mem_filter.mp hr).1).1
      · have b3 : (hStep n T (F, R) a).1.length ≤ F.length + R0.length := by
          unfold hStep
          rw [hR0]
          split
          · show (F ++ srtR _).length ≤ F.length + R0.length
            rw [List.length_append, srtR_len]
            have := filt_len (fun r => adj T (headN r) (lastN r) && decide (sndN r < lastN r)) (R0.filter fun r => decide (headN r < lastN r))
            have := filt_len (fun r => decide (headN r < lastN r)) R0
            omega
          · show F.length ≤ F.length + R0.length
            exact Nat.le_add_right _ _
        show 6 * _ ≤ 7 * 7 ^ (done.length + 2)
        omega
  · obtain ⟨x, _, _, _, rfl⟩ := h
    simp only [startR, exSs, exS, evE, evEs, evI, evO, evC, getR_0, getR_s, setR, tgR, wipeR, idx_tup, idx_lst, idx_dW0, idx_dW1, bi_len_t, bi_len_l, bi_all, bi_any, bi_min2, bi_max2, bi_tuple_l, bi_tuple_t, bi_list_l, bi_list_t, bi_int, bi_srt_l, bi_srt_t, bi_sset, bi_ssetT, chkB_bl, seq_t, seq_l, b_add, b_sub, ty_non, ty_bl, ty_int, ty_str, ty_tup, ty_lst, ty_dW, List.map_cons, List.map_nil, List.cons_append, List.nil_append, List.replicate_succ, List.replicate_zero, List.length_cons, List.length_nil, List.set_cons_zero, List.set_cons_succ, bnd_ok, bnd_bnd, noex_ok, opt_some, Option.map_some, Option.bind_some, List.getElem?_cons_zero, List.getElem?_cons_succ, ixD_0, ixD_1, ixD_2, cmpD_in, cmpD_inL, cmpD_not, cmpD_notL, cmpD_eq, cmpD_ne, cmpD_lt, cmpD_gt, cmpD_le, cmpD_ge, big0, big1, big2, big3, big4, big5, big6, big7, if_true, if_false, Nat.reduceAdd, Nat.reduceSub, Nat.reduceLT, ↓reduceIte, dec_lt, dec_le, dec_eq, eq_int, lst_of, Bool.false_eq_true]
    rfl
theorem m_is_within {k : Nat} {v lo hi : Int} {s : S} : calD ds (k + 1) 0 [.int v, .int lo, .int hi] s = .ok (.bl (decide (lo ≤ v) && decide (v ≤ hi))) s := by
  rw [cal_at (d := d_is_within) rfl rfl]
  simp only [startR, exSs, exS, evE, evEs, evI, evO, evC, getR_0, getR_s, setR, tgR, wipeR, idx_tup, idx_lst, idx_dW0, idx_dW1, bi_len_t, bi_len_l, bi_all, bi_any, bi_min2, bi_max2, bi_tuple_l, bi_tuple_t, bi_list_l, bi_list_t, bi_int, bi_srt_l, bi_srt_t, bi_sset, bi_ssetT, chkB_bl, seq_t, seq_l, b_add, b_sub, ty_non, ty_bl, ty_int, ty_str, ty_tup, ty_lst, ty_dW, List.map_cons, List.map_nil, List.cons_append, List.nil_append, List.replicate_succ, List.replicate_zero, List.length_cons, List.length_nil, List.set_cons_zero, List.set_cons_succ, bnd_ok, bnd_bnd, noex_ok, opt_some, Option.map_some, Option.bind_some, List.getElem?_cons_zero, List.getElem?_cons_succ, ixD_0, ixD_1, ixD_2, cmpD_in, cmpD_inL, cmpD_not, cmpD_notL, cmpD_eq, cmpD_ne, cmpD_lt, cmpD_gt, cmpD_le, cmpD_ge, big0, big1, big2, big3, big4, big5, big6, big7, if_true, if_false, Nat.reduceAdd, Nat.reduceSub, Nat.reduceLT, ↓reduceIte, dec_lt, dec_le, dec_eq, eq_int, lst_of, Bool.false_eq_true, d_is_within, b_is_within, is_ii, is_ib, Bool.not_false]
  by_cases h : lo ≤ v
  · simp only [h, decide_true, startR, exSs, exS, evE, evEs, evI, evO, evC, getR_0, getR_s, setR, tgR, wipeR, idx_tup, idx_lst, idx_dW0, idx_dW1, bi_len_t, bi_len_l, bi_all, bi_any, bi_min2, bi_max2, bi_tuple_l, bi_tuple_t, bi_list_l, bi_list_t, bi_int, bi_srt_l, bi_srt_t, bi_sset, bi_ssetT, chkB_bl, seq_t, seq_l, b_add, b_sub, ty_non, ty_bl, ty_int, ty_str, ty_tup, ty_lst, ty_dW, List.map_cons, List.map_nil, List.cons_append, List.nil_append, List.replicate_succ, List.replicate_zero, List.length_cons, List.length_nil, List.set_cons_zero, List.set_cons_succ, bnd_ok, bnd_bnd, noex_ok, opt_some, Option.map_some, Option.bind_some, List.getElem?_cons_zero, List.getElem?_cons_succ, ixD_0, ixD_1, ixD_2, cmpD_in, cmpD_inL, cmpD_not, cmpD_notL, cmpD_eq, cmpD_ne, cmpD_lt, cmpD_gt, cmpD_le, cmpD_ge, big0, big1, big2, big3, big4, big5, big6, big7, if_true, if_false, Nat.reduceAdd, Nat.reduceSub, Nat.reduceLT, ↓reduceIte, dec_lt, dec_le, dec_eq, eq_int, lst_of, Bool.false_eq_true, Bool.true_and]
  · simp only [h, decide_false, startR, exSs, exS, evE, evEs, evI, evO, evC, getR_0, getR_s, setR, tgR, wipeR, idx_tup, idx_lst, idx_dW0, idx_dW1, bi_len_t, bi_len_l, bi_all, bi_any, bi_min2, bi_max2, bi_tuple_l, bi_tuple_t, bi_list_l, bi_list_t, bi_int, bi_srt_l, bi_srt_t, bi_sset, bi_ssetT, chkB_bl, seq_t, seq_l, b_add, b_sub, ty_non, ty_bl, ty_int, ty_str, ty_tup, ty_lst, ty_dW, List.map_cons, List.map_nil, List.cons_append, List.nil_append, List.replicate_succ, List.replicate_zero, List.length_cons, List.length_nil, List.set_cons_zero, List.set_cons_succ, bnd_ok, bnd_bnd, noex_ok, opt_some, Option.map_some, Option.bind_some, List.getElem?_cons_zero, List.getElem?_cons_succ, ixD_0, ixD_1, ixD_2, cmpD_in, cmpD_inL, cmpD_not, cmpD_notL, cmpD_eq, cmpD_ne, cmpD_lt, cmpD_gt, cmpD_le, cmpD_ge, big0, big1, big2, big3, big4, big5, big6, big7, if_true, if_false, Nat.reduceAdd, Nat.reduceSub, Nat.reduceLT, ↓reduceIte, dec_lt, dec_le, dec_eq, eq_int, lst_of, Bool.false_eq_true, Bool.false_and]
theorem m_is_pair {k n : Nat} {p : Nat × Nat} {s : S} (h1 : p.1 < p.2) (h2 : p.2 < n) : calD ds (k + 2) 1 [.int (n : Int), dP p] s = .ok (.bl true) s := by
  rw [cal_at (d := d_is_pair) rfl rfl]
  simp only [startR, exSs, exS, evE, evEs, evI, evO, evC, getR_0, getR_s, setR, tgR, wipeR, idx_tup, idx_lst, idx_dW0, idx_dW1, bi_len_t, bi_len_l, bi_all, bi_any, bi_min2, bi_max2, bi_tuple_l, bi_tuple_t, bi_list_l, bi_list_t, bi_int, bi_srt_l, bi_srt_t, bi_sset, bi_ssetT, chkB_bl, seq_t, seq_l, b_add, b_sub, ty_non, ty_bl, ty_int, ty_str, ty_tup, ty_lst, ty_dW, List.map_cons, List.map_nil, List.cons_append, List.nil_append, List.replicate_succ, List.replicate_zero, List.length_cons, List.length_nil, List.set_cons_zero, List.set_cons_succ, bnd_ok, bnd_bnd, noex_ok, opt_some, Option.map_some, Option.bind_some, List.getElem?_cons_zero, List.getElem?_cons_succ, ixD_0, ixD_1, ixD_2, cmpD_in, cmpD_inL, cmpD_not, cmpD_notL, cmpD_eq, cmpD_ne, cmpD_lt, cmpD_gt, cmpD_le, cmpD_ge, big0, big1, big2, big3, big4, big5, big6, big7, if_true, if_false, Nat.reduceAdd, Nat.reduceSub, Nat.reduceLT, ↓reduceIte, dec_lt, dec_le, dec_eq, eq_int, lst_of, Bool.false_eq_true, d_is_pair, b_is_pair, dP, is_tt, Bool.not_true, lcLoop, m_is_within]
  have q1 : decide ((0 : Int) ≤ (p.1 : Int)) = true := decide_eq_true (by omega)
  have q2 : decide ((p.1 : Int) ≤ (n : Int) - 1) = true := decide_eq_true (by omega)
  have q3 : decide ((0 : Int) ≤ (p.2 : Int)) = true := decide_eq_true (by omega)
  have q4 : decide ((p.2 : Int) ≤ (n : Int) - 1) = true := decide_eq_true (by omega)
  have q5 : decide ((p.1 : Int) < (p.2 : Int)) = true := decide_eq_true (by omega)
  simp only [two_two, Bool.not_true, blsD_two, q1, q2, q3, q4, Bool.and_true, startR, exSs, exS, evE, evEs, evI, evO, evC, getR_0, getR_s, setR, tgR, wipeR, idx_tup, idx_lst, idx_dW0, idx_dW1, bi_len_t, bi_len_l, bi_all, bi_any, bi_min2, bi_max2, bi_tuple_l, bi_tuple_t, bi_list_l, bi_list_t, bi_int, bi_srt_l, bi_srt_t, bi_sset, bi_ssetT, chkB_bl, seq_t, seq_l, b_add, b_sub, ty_non, ty_bl, ty_int, ty_str, ty_tup, ty_lst, ty_dW, List.map_cons, List.map_nil, List.cons_append, List.nil_append, List.replicate_succ, List.replicate_zero, List.length_cons, List.length_nil, List.set_cons_zero, List.set_cons_succ, bnd_ok, bnd_bnd, noex_ok, opt_some, Option.map_some, Option.bind_some, List.getElem?_cons_zero, List.getElem?_cons_succ, ixD_0, ixD_1, ixD_2, cmpD_in, cmpD_inL, cmpD_not, cmpD_notL, cmpD_eq, cmpD_ne, cmpD_lt, cmpD_gt, cmpD_le, cmpD_ge, big0, big1, big2, big3, big4, big5, big6, big7, if_true, if_false, Nat.reduceAdd, Nat.reduceSub, Nat.reduceLT, ↓reduceIte, dec_lt, dec_le, dec_eq, eq_int, lst_of, Bool.false_eq_true, List.all_cons, List.all_nil, id, q5]
theorem m_are_pairs {k n : Nat} {T : List (Nat × Nat)} {s : S} (G : GoodW n T) : calD ds (k + 3) 2 [.int (n : Int), .tup (T.map dP)] s = .ok (.bl true) s := by
  have hT : T.length ≤ big := by have := G.len; unfold big; omega
  have hZ : (T.zip (T.drop 1)).length ≤ big := by rw [List.length_zip]; omega
  rw [cal_at (d := d_are_pairs) rfl rfl]
  simp only [startR, exSs, exS, evE, evEs, evI, evO, evC, getR_0, getR_s, setR, tgR, wipeR, idx_tup, idx_lst, idx_dW0, idx_dW1, bi_len_t, bi_len_l, bi_all, bi_any, bi_min2, bi_max2, bi_tuple_l, bi_tuple_t, bi_list_l, bi_list_t, bi_int, bi_srt_l, bi_srt_t, bi_sset, bi_ssetT, chkB_bl, seq_t, seq_l, b_add, b_sub, ty_non, ty_bl, ty_int, ty_str, ty_tup, ty_lst, ty_dW, List.map_cons, List.map_nil, List.cons_append, List.nil_append, List.replicate_succ, List.replicate_zero, List.length_cons, List.length_nil, List.set_cons_zero, List.set_cons_succ, bnd_ok, bnd_bnd, noex_ok, opt_some, Option.map_some, Option.bind_some, List.getElem?_cons_zero, List.getElem?_cons_succ, ixD_0, ixD_1, ixD_2, cmpD_in, cmpD_inL, cmpD_not, cmpD_notL, cmpD_eq, cmpD_ne, cmpD_lt, cmpD_gt, cmpD_le, cmpD_ge, big0, big1, big2, big3, big4, big5, big6, big7, if_true, if_false, Nat.reduceAdd, Nat.reduceSub, Nat.reduceLT, ↓reduceIte, dec_lt, dec_le, dec_eq, eq_int, lst_of, Bool.false_eq_true, d_are_pairs, b_are_pairs, is_tt, Bool.not_true, List.length_map, hT]
  refine lc_runA (g := dP) (h := fun _ => .bl true) (fun p hp => ?_) ?_
  · obtain ⟨h1, h2⟩ := G.bd p hp
    simp only [startR, exSs, exS, evE, evEs, evI, evO, evC, getR_0, getR_s, setR, tgR, wipeR, idx_tup, idx_lst, idx_dW0, idx_dW1, bi_len_t, bi_len_l, bi_all, bi_any, bi_min2, bi_max2, bi_tuple_l, bi_tuple_t, bi_list_l, bi_list_t, bi_int, bi_srt_l, bi_srt_t, bi_sset, bi_ssetT, chkB_bl, seq_t, seq_l, b_add, b_sub, ty_non, ty_bl, ty_int, ty_str, ty_tup, ty_lst, ty_dW, List.map_cons, List.map_nil, List.cons_append, List.nil_append, List.replicate_succ, List.replicate_zero, List.length_cons, List.length_nil, List.set_cons_zero, List.set_cons_succ, bnd_ok, bnd_bnd, noex_ok, opt_some, Option.map_some, Option.bind_some, List.getElem?_cons_zero, List.getElem?_cons_succ, ixD_0, ixD_1, ixD_2, cmpD_in, cmpD_inL, cmpD_not, cmpD_notL, cmpD_eq, cmpD_ne, cmpD_lt, cmpD_gt, cmpD_le, cmpD_ge, big0, big1, big2, big3, big4, big5, big6, big7, if_true, if_false, Nat.reduceAdd, Nat.reduceSub, Nat.reduceLT, ↓reduceIte, dec_lt, dec_le, dec_eq, eq_int, lst_of, Bool.false_eq_true, m_is_pair h1 h2]
  · have z : ∀ l : List (Nat × Nat), (l.map fun _ => true).all id = true := fun l => by simp
    simp only [startR, exSs, exS, evE, evEs, evI, evO, evC, getR_0, getR_s, setR, tgR, wipeR, idx_tup, idx_lst, idx_dW0, idx_dW1, bi_len_t, bi_len_l, bi_all, bi_any, bi_min2, bi_max2, bi_tuple_l, bi_tuple_t, bi_list_l, bi_list_t, bi_int, bi_srt_l, bi_srt_t, bi_sset, bi_ssetT, chkB_bl, seq_t, seq_l, b_add, b_sub, ty_non, ty_bl, ty_int, ty_str, ty_tup, ty_lst, ty_dW, List.map_cons, List.map_nil, List.cons_append, List.nil_append, List.replicate_succ, List.replicate_zero, List.length_cons, List.length_nil, List.set_cons_zero, List.set_cons_succ, bnd_ok, bnd_bnd, noex_ok, opt_some, Option.map_some, Option.bind_some, List.getElem?_cons_zero, List.getElem?_cons_succ, ixD_0, ixD_1, ixD_2, cmpD_in, cmpD_inL, cmpD_not, cmpD_notL, cmpD_eq, cmpD_ne, cmpD_lt, cmpD_gt, cmpD_le, cmpD_ge, big0, big1, big2, big3, big4, big5, big6, big7, if_true, if_false, Nat.reduceAdd, Nat.reduceSub, Nat.reduceLT, ↓reduceIte, dec_lt, dec_le, dec_eq, eq_int, lst_of, Bool.false_eq_true, blsD_map (fun _ => true), z, Bool.not_true, slT, zipD_T, List.length_map, hZ]
    refine lc_runA (g := fun q : (Nat × Nat) × (Nat × Nat) => .tup [dP q.1, dP q.2]) (h := fun _ => .bl true) (fun q hq => ?_) ?_
    · simp only [startR, exSs, exS, evE, evEs, evI, evO, evC, getR_0, getR_s, setR, tgR, wipeR, idx_tup, idx_lst, idx_dW0, idx_dW1, bi_len_t, bi_len_l, bi_all, bi_any, bi_min2, bi_max2, bi_tuple_l, bi_tuple_t, bi_list_l, bi_list_t, bi_int, bi_srt_l, bi_srt_t, bi_sset, bi_ssetT, chkB_bl, seq_t, seq_l, b_add, b_sub, ty_non, ty_bl, ty_int, ty_str, ty_tup, ty_lst, ty_dW, List.map_cons, List.map_nil, List.cons_append, List.nil_append, List.replicate_succ, List.replicate_zero, List.length_cons, List.length_nil, List.set_cons_zero, List.set_cons_succ, bnd_ok, bnd_bnd, noex_ok, opt_some, Option.map_some, Option.bind_some, List.getElem?_cons_zero, List.getElem?_cons_succ, ixD_0, ixD_1, ixD_2, cmpD_in, cmpD_inL, cmpD_not, cmpD_notL, cmpD_eq, cmpD_ne, cmpD_lt, cmpD_gt, cmpD_le, cmpD_ge, big0, big1, big2, big3, big4, big5, big6, big7, if_true, if_false, Nat.reduceAdd, Nat.reduceSub, Nat.reduceLT, ↓reduceIte, dec_lt, dec_le, dec_eq, eq_int, lst_of, Bool.false_eq_true, setRs, cmp_dP (zip_drop G.srt q hq)]
    · have z : ∀ l : List ((Nat × Nat) × (Nat × Nat)), (l.map fun _ => true).all id = true := fun l => by simp
      simp only [startR, exSs, exS, evE, evEs, evI, evO, evC, getR_0, getR_s, setR, tgR, wipeR, idx_tup, idx_lst, idx_dW0, idx_dW1, bi_len_t, bi_len_l, bi_all, bi_any, bi_min2, bi_max2, bi_tuple_l, bi_tuple_t, bi_list_l, bi_list_t, bi_int, bi_srt_l, bi_srt_t, bi_sset, bi_ssetT, chkB_bl, seq_t, seq_l, b_add, b_sub, ty_non, ty_bl, ty_int, ty_str, ty_tup, ty_lst, ty_dW, List.map_cons, List.map_nil, List.cons_append, List.nil_append, List.replicate_succ, List.replicate_zero, List.length_cons, List.length_nil, List.set_cons_zero, List.set_cons_succ, bnd_ok, bnd_bnd, noex_ok, opt_some, Option.map_some, Option.bind_some, List.getElem?_cons_zero, List.getElem?_cons_succ, ixD_0, ixD_1, ixD_2, cmpD_in, cmpD_inL, cmpD_not, cmpD_notL, cmpD_eq, cmpD_ne, cmpD_lt, cmpD_gt, cmpD_le, cmpD_ge, big0, big1, big2, big3, big4, big5, big6, big7, if_true, if_false, Nat.reduceAdd, Nat.reduceSub, Nat.reduceLT, ↓reduceIte, dec_lt, dec_le, dec_eq, eq_int, lst_of, Bool.false_eq_true, blsD_map (fun _ => true), z]
theorem m_is_web_value {k n : Nat} {T : List (Nat × Nat)} {s : S} (G : GoodW n T) : calD ds (k + 4) 3 [dW n T] s = .ok (.bl true) s := by
  have q1 : decide ((1 : Int) ≤ (n : Int)) = true := decide_eq_true (by have := G.h0; omega)
  have q2 : decide ((n : Int) ≤ 7) = true := decide_eq_true (by have := G.h7; omega)
  rw [cal_at (d := d_is_web_value) rfl rfl]
  simp only [startR, exSs, exS, evE, evEs, evI, evO, evC, getR_0, getR_s, setR, tgR, wipeR, idx_tup, idx_lst, idx_dW0, idx_dW1, bi_len_t, bi_len_l, bi_all, bi_any, bi_min2, bi_max2, bi_tuple_l, bi_tuple_t, bi_list_l, bi_list_t, bi_int, bi_srt_l, bi_srt_t, bi_sset, bi_ssetT, chkB_bl, seq_t, seq_l, b_add, b_sub, ty_non, ty_bl, ty_int, ty_str, ty_tup, ty_lst, ty_dW, List.map_cons, List.map_nil, List.cons_append, List.nil_append, List.replicate_succ, List.replicate_zero, List.length_cons, List.length_nil, List.set_cons_zero, List.set_cons_succ, bnd_ok, bnd_bnd, noex_ok, opt_some, Option.map_some, Option.bind_some, List.getElem?_cons_zero, List.getElem?_cons_succ, ixD_0, ixD_1, ixD_2, cmpD_in, cmpD_inL, cmpD_not, cmpD_notL, cmpD_eq, cmpD_ne, cmpD_lt, cmpD_gt, cmpD_le, cmpD_ge, big0, big1, big2, big3, big4, big5, big6, big7, if_true, if_false, Nat.reduceAdd, Nat.reduceSub, Nat.reduceLT, ↓reduceIte, dec_lt, dec_le, dec_eq, eq_int, lst_of, Bool.false_eq_true, d_is_web_value, b_is_web_value, dW, is_tt, Bool.not_true, two_two, m_is_within, q1, q2, Bool.and_true, m_are_pairs G]
theorem m_need_web {k n : Nat} {T : List (Nat × Nat)} {s : S} (G : GoodW n T) : calD ds (k + 5) 4 [dW n T] s = .ok .non s := by
  rw [cal_at (d := d_need_web) rfl rfl]
  simp only [startR, exSs, exS, evE, evEs, evI, evO, evC, getR_0, getR_s, setR, tgR, wipeR, idx_tup, idx_lst, idx_dW0, idx_dW1, bi_len_t, bi_len_l, bi_all, bi_any, bi_min2, bi_max2, bi_tuple_l, bi_tuple_t, bi_list_l, bi_list_t, bi_int, bi_srt_l, bi_srt_t, bi_sset, bi_ssetT, chkB_bl, seq_t, seq_l, b_add, b_sub, ty_non, ty_bl, ty_int, ty_str, ty_tup, ty_lst, ty_dW, List.map_cons, List.map_nil, List.cons_append, List.nil_append, List.replicate_succ, List.replicate_zero, List.length_cons, List.length_nil, List.set_cons_zero, List.set_cons_succ, bnd_ok, bnd_bnd, noex_ok, opt_some, Option.map_some, Option.bind_some, List.getElem?_cons_zero, List.getElem?_cons_succ, ixD_0, ixD_1, ixD_2, cmpD_in, cmpD_inL, cmpD_not, cmpD_notL, cmpD_eq, cmpD_ne, cmpD_lt, cmpD_gt, cmpD_le, cmpD_ge, big0, big1, big2, big3, big4, big5, big6, big7, if_true, if_false, Nat.reduceAdd, Nat.reduceSub, Nat.reduceLT, ↓reduceIte, dec_lt, dec_le, dec_eq, eq_int, lst_of, Bool.false_eq_true, d_need_web, b_need_web, m_is_web_value G, Bool.not_true]
theorem m_first_of {k n : Nat} {T : List (Nat × Nat)} {s : S} (h0 : 1 ≤ n) (hn : n ≤ 7) : calD ds (k + 5) 11 [dW n T] s = .ok (firstD n T) s := by
  rw [cal_at (d := d_first_of) rfl rfl]
  simp only [startR, exSs, exS, evE, evEs, evI, evO, evC, getR_0, getR_s, setR, tgR, wipeR, idx_tup, idx_lst, idx_dW0, idx_dW1, bi_len_t, bi_len_l, bi_all, bi_any, bi_min2, bi_max2, bi_tuple_l, bi_tuple_t, bi_list_l, bi_list_t, bi_int, bi_srt_l, bi_srt_t, bi_sset, bi_ssetT, chkB_bl, seq_t, seq_l, b_add, b_sub, ty_non, ty_bl, ty_int, ty_str, ty_tup, ty_lst, ty_dW, List.map_cons, List.map_nil, List.cons_append, List.nil_append, List.replicate_succ, List.replicate_zero, List.length_cons, List.length_nil, List.set_cons_zero, List.set_cons_succ, bnd_ok, bnd_bnd, noex_ok, opt_some, Option.map_some, Option.bind_some, List.getElem?_cons_zero, List.getElem?_cons_succ, ixD_0, ixD_1, ixD_2, cmpD_in, cmpD_inL, cmpD_not, cmpD_notL, cmpD_eq, cmpD_ne, cmpD_lt, cmpD_gt, cmpD_le, cmpD_ge, big0, big1, big2, big3, big4, big5, big6, big7, if_true, if_false, Nat.reduceAdd, Nat.reduceSub, Nat.reduceLT, ↓reduceIte, dec_lt, dec_le, dec_eq, eq_int, lst_of, Bool.false_eq_true, d_first_of, b_first_of, m_holes_of h0 hn, m_counter hn, forLoop, setRs, eq_nilR]
  unfold firstD cT
  cases hH : holesL n T with
  | cons r H =>
    simp only [reduceCtorEq, decide_false, Bool.not_false, startR, exSs, exS, evE, evEs, evI, evO, evC, getR_0, getR_s, setR, tgR, wipeR, idx_tup, idx_lst, idx_dW0, idx_dW1, bi_len_t, bi_len_l, bi_all, bi_any, bi_min2, bi_max2, bi_tuple_l, bi_tuple_t, bi_list_l, bi_list_t, bi_int, bi_srt_l, bi_srt_t, bi_sset, bi_ssetT, chkB_bl, seq_t, seq_l, b_add, b_sub, ty_non, ty_bl, ty_int, ty_str, ty_tup, ty_lst, ty_dW, List.map_cons, List.map_nil, List.cons_append, List.nil_append, List.replicate_succ, List.replicate_zero, List.length_cons, List.length_nil, List.set_cons_zero, List.set_cons_succ, bnd_ok, bnd_bnd, noex_ok, opt_some, Option.map_some, Option.bind_some, List.getElem?_cons_zero, List.getElem?_cons_succ, ixD_0, ixD_1, ixD_2, cmpD_in, cmpD_inL, cmpD_not, cmpD_notL, cmpD_eq, cmpD_ne, cmpD_lt, cmpD_gt, cmpD_le, cmpD_ge, big0, big1, big2, big3, big4, big5, big6, big7, if_true, if_false, Nat.reduceAdd, Nat.reduceSub, Nat.reduceLT, ↓reduceIte, dec_lt, dec_le, dec_eq, eq_int, lst_of, Bool.false_eq_true]
  | nil =>
    simp only [decide_true, Bool.not_true, startR, exSs, exS, evE, evEs, evI, evO, evC, getR_0, getR_s, setR, tgR, wipeR, idx_tup, idx_lst, idx_dW0, idx_dW1, bi_len_t, bi_len_l, bi_all, bi_any, bi_min2, bi_max2, bi_tuple_l, bi_tuple_t, bi_list_l, bi_list_t, bi_int, bi_srt_l, bi_srt_t, bi_sset, bi_ssetT, chkB_bl, seq_t, seq_l, b_add, b_sub, ty_non, ty_bl, ty_int, ty_str, ty_tup, ty_lst, ty_dW, List.map_cons, List.map_nil, List.cons_append, List.nil_append, List.replicate_succ, List.replicate_zero, List.length_cons, List.length_nil, List.set_cons_zero, List.set_cons_succ, bnd_ok, bnd_bnd, noex_ok, opt_some, Option.map_some, Option.bind_some, List.getElem?_cons_zero, List.getElem?_cons_succ, ixD_0, ixD_1, ixD_2, cmpD_in, cmpD_inL, cmpD_not, cmpD_notL, cmpD_eq, cmpD_ne, cmpD_lt, cmpD_gt, cmpD_le, cmpD_ge, big0, big1, big2, big3, big4, big5, big6, big7, if_true, if_false, Nat.reduceAdd, Nat.reduceSub, Nat.reduceLT, ↓reduceIte, dec_lt, dec_le, dec_eq, eq_int, lst_of, Bool.false_eq_true, setRs, eq_nilR]
    cases hA : holesL n ((prs n).filter fun p => decide (p ∉ T)) with
    | cons r A =>
      simp only [reduceCtorEq, decide_false, Bool.not_false, startR, exSs, exS, evE, evEs, evI, evO, evC, getR_0, getR_s, setR, tgR, wipeR, idx_tup, idx_lst, idx_dW0, idx_dW1, bi_len_t, bi_len_l, bi_all, bi_any, bi_min2, bi_max2, bi_tuple_l, bi_tuple_t, bi_list_l, bi_list_t, bi_int, bi_srt_l, bi_srt_t, bi_sset, bi_ssetT, chkB_bl, seq_t, seq_l, b_add, b_sub, ty_non, ty_bl, ty_int, ty_str, ty_tup, ty_lst, ty_dW, List.map_cons, List.map_nil, List.cons_append, List.nil_append, List.replicate_succ, List.replicate_zero, List.length_cons, List.length_nil, List.set_cons_zero, List.set_cons_succ, bnd_ok, bnd_bnd, noex_ok, opt_some, Option.map_some, Option.bind_some, List.getElem?_cons_zero, List.getElem?_cons_succ, ixD_0, ixD_1, ixD_2, cmpD_in, cmpD_inL, cmpD_not, cmpD_notL, cmpD_eq, cmpD_ne, cmpD_lt, cmpD_gt, cmpD_le, cmpD_ge, big0, big1, big2, big3, big4, big5, big6, big7, if_true, if_false, Nat.reduceAdd, Nat.reduceSub, Nat.reduceLT, ↓reduceIte, dec_lt, dec_le, dec_eq, eq_int, lst_of, Bool.false_eq_true]
    | nil =>
      simp only [decide_true, Bool.not_true, startR, exSs, exS, evE, evEs, evI, evO, evC, getR_0, getR_s, setR, tgR, wipeR, idx_tup, idx_lst, idx_dW0, idx_dW1, bi_len_t, bi_len_l, bi_all, bi_any, bi_min2, bi_max2, bi_tuple_l, bi_tuple_t, bi_list_l, bi_list_t, bi_int, bi_srt_l, bi_srt_t, bi_sset, bi_ssetT, chkB_bl, seq_t, seq_l, b_add, b_sub, ty_non, ty_bl, ty_int, ty_str, ty_tup, ty_lst, ty_dW, List.map_cons, List.map_nil, List.cons_append, List.nil_append, List.replicate_succ, List.replicate_zero, List.length_cons, List.length_nil, List.set_cons_zero, List.set_cons_succ, bnd_ok, bnd_bnd, noex_ok, opt_some, Option.map_some, Option.bind_some, List.getElem?_cons_zero, List.getElem?_cons_succ, ixD_0, ixD_1, ixD_2, cmpD_in, cmpD_inL, cmpD_not, cmpD_notL, cmpD_eq, cmpD_ne, cmpD_lt, cmpD_gt, cmpD_le, cmpD_ge, big0, big1, big2, big3, big4, big5, big6, big7, if_true, if_false, Nat.reduceAdd, Nat.reduceSub, Nat.reduceLT, ↓reduceIte, dec_lt, dec_le, dec_eq, eq_int, lst_of, Bool.false_eq_true]
theorem m_calm {k n : Nat} {T : List (Nat × Nat)} {s : S} (h0 : 1 ≤ n) (hn : n ≤ 7) : calD ds (k + 6) 12 [dW n T] s = .ok (.bl (calmB n T)) s := by
  rw [cal_at (d := d_calm) rfl rfl]
  simp only [startR, exSs, exS, evE, evEs, evI, evO, evC, getR_0, getR_s, setR, tgR, wipeR, idx_tup, idx_lst, idx_dW0, idx_dW1, bi_len_t, bi_len_l, bi_all, bi_any, bi_min2, bi_max2, bi_tuple_l, bi_tuple_t, bi_list_l, bi_list_t, bi_int, bi_srt_l, bi_srt_t, bi_sset, bi_ssetT, chkB_bl, seq_t, seq_l, b_add, b_sub, ty_non, ty_bl, ty_int, ty_str, ty_tup, ty_lst, ty_dW, List.map_cons, List.map_nil, List.cons_append, List.nil_append, List.replicate_succ, List.replicate_zero, List.length_cons, List.length_nil, List.set_cons_zero, List.set_cons_succ, bnd_ok, bnd_bnd, noex_ok, opt_some, Option.map_some, Option.bind_some, List.getElem?_cons_zero, List.getElem?_cons_succ, ixD_0, ixD_1, ixD_2, cmpD_in, cmpD_inL, cmpD_not, cmpD_notL, cmpD_eq, cmpD_ne, cmpD_lt, cmpD_gt, cmpD_le, cmpD_ge, big0, big1, big2, big3, big4, big5, big6, big7, if_true, if_false, Nat.reduceAdd, Nat.reduceSub, Nat.reduceLT, ↓reduceIte, dec_lt, dec_le, dec_eq, eq_int, lst_of, Bool.false_eq_true, d_calm, b_calm, m_first_of h0 hn]
  unfold firstD calmB
  cases hH : holesL n T with
  | cons r H => rfl
  | nil =>
    cases hA : holesL n (cT n T) with
    | cons r A => rfl
    | nil => rfl
theorem m_against {k n : Nat} {T : List (Nat × Nat)} {s : S} (G : GoodW n T) : calD ds (k + 6) 13 [dW n T] s = .ok (dW n (cT n T)) s := by
  rw [cal_at (d := d_against) rfl rfl]
  simp only [startR, exSs, exS, evE, evEs, evI, evO, evC, getR_0, getR_s, setR, tgR, wipeR, idx_tup, idx_lst, idx_dW0, idx_dW1, bi_len_t, bi_len_l, bi_all, bi_any, bi_min2, bi_max2, bi_tuple_l, bi_tuple_t, bi_list_l, bi_list_t, bi_int, bi_srt_l, bi_srt_t, bi_sset, bi_ssetT, chkB_bl, seq_t, seq_l, b_add, b_sub, ty_non, ty_bl, ty_int, ty_str, ty_tup, ty_lst, ty_dW, List.map_cons, List.map_nil, List.cons_append, List.nil_append, List.replicate_succ, List.replicate_zero, List.length_cons, List.length_nil, List.set_cons_zero, List.set_cons_succ, bnd_ok, bnd_bnd, noex_ok, opt_some, Option.map_some, Option.bind_some, List.getElem?_cons_zero, List.getElem?_cons_succ, ixD_0, ixD_1, ixD_2, cmpD_in, cmpD_inL, cmpD_not, cmpD_notL, cmpD_eq, cmpD_ne, cmpD_lt, cmpD_gt, cmpD_le, cmpD_ge, big0, big1, big2, big3, big4, big5, big6, big7, if_true, if_false, Nat.reduceAdd, Nat.reduceSub, Nat.reduceLT, ↓reduceIte, dec_lt, dec_le, dec_eq, eq_int, lst_of, Bool.false_eq_true, d_against, b_against, m_need_web G, m_counter G.h7]
  rfl
theorem m_pick {k j m size : Nat} {s : S} (h : Dk j s m) (hm : m ≤ 1000000) (h1 : 1 ≤ size) (h2 : size ≤ 1000) : ∃ (v : Nat) (s' : S), calD ds (k + 1) 22 [.box j, .int (size : Int)] s = .ok (.int (v : Int)) s' ∧ v < size ∧ Dk j s' (m + 1) := by
  obtain ⟨a, b, c, e, hb, hb', hc, hc'⟩ := h
  have fin : ∀ x : Int, ∃ v : Nat, x.fmod (size : Int) = (v : Int) ∧ v < size := fun x => by
    obtain ⟨q1, q2⟩ := fmod_lt (i := x) (j := (size : Int)) (by omega)
    exact ⟨(x.fmod (size : Int)).toNat, by omega, by omega⟩
  have z0 : (size : Int) ≠ 0 := by omega
  have bm := fun i => b_mod (i := i) z0
  have bd := fun i => b_fdiv (i := i) (j := (size : Int)) ⟨z0, by omega⟩
  by_cases ha : 1 < a
  · obtain ⟨v, e1, e2⟩ := fin a
    refine ⟨v, s.set j (.lst [.int (a.fdiv (size : Int)), .int b, .int c]), ?_, e2, _, b, c, set_at e, hb, hb', hc, by omega⟩
    rw [cal_at (d := d__law_pick) rfl rfl]
    simp only [startR, exSs, exS, evE, evEs, evI, evO, evC, getR_0, getR_s, setR, tgR, wipeR, idx_tup, idx_lst, idx_dW0, idx_dW1, bi_len_t, bi_len_l, bi_all, bi_any, bi_min2, bi_max2, bi_tuple_l, bi_tuple_t, bi_list_l, bi_list_t, bi_int, bi_srt_l, bi_srt_t, bi_sset, bi_ssetT, chkB_bl, seq_t, seq_l, b_add, b_sub, ty_non, ty_bl, ty_int, ty_str, ty_tup, ty_lst, ty_dW, List.map_cons, List.map_nil, List.cons_append, List.nil_append, List.replicate_succ, List.replicate_zero, List.length_cons, List.length_nil, List.set_cons_zero, List.set_cons_succ, bnd_ok, bnd_bnd, noex_ok, opt_some, Option.map_some, Option.bind_some, List.getElem?_cons_zero, List.getElem?_cons_succ, ixD_0, ixD_1, ixD_2, cmpD_in, cmpD_inL, cmpD_not, cmpD_notL, cmpD_eq, cmpD_ne, cmpD_lt, cmpD_gt, cmpD_le, cmpD_ge, big0, big1, big2, big3, big4, big5, big6, big7, if_true, if_false, Nat.reduceAdd, Nat.reduceSub, Nat.reduceLT, ↓reduceIte, dec_lt, dec_le, dec_eq, eq_int, lst_of, Bool.false_eq_true, d__law_pick, b__law_pick, idx_box e, ha, decide_true, bm, bd, e1, e, ixN0]
  · have p1 := b_pow (i := b + 15485867 * (c + 1)) (j := 5) ⟨by omega, by omega, by omega⟩
    obtain ⟨x, hx⟩ : ∃ x : Int, x = ((b + 15485867 * (c + 1)) ^ (5 : Int).toNat).fmod 2147483647 := ⟨_, rfl⟩
    obtain ⟨x1, x2⟩ := fmod_lt (i := (b + 15485867 * (c + 1)) ^ (5 : Int).toNat) (j := 2147483647) (by omega)
    rw [← hx] at x1 x2
    have p2 := b_pow (i := x + 7919 * (c + 1)) (j := 3) ⟨by omega, by omega, by omega⟩
    obtain ⟨v, e1, e2⟩ := fin ((((x + 7919 * (c + 1)) ^ (3 : Int).toNat).fmod 2147483629).fdiv 32)
    refine ⟨v, s.set j (.lst [.int a, .int b, .int (c + 1)]), ?_, e2, a, b, c + 1, set_at e, hb, hb', by omega, by omega⟩
    have m1 := fun i => b_mul (i := 15485867) (j := i) (by decide)
    have m2 := fun i => b_mul (i := 7919) (j := i) (by decide)
    have m3 := fun i => b_mod (i := i) (j := 2147483647) (by decide)
    have m4 := fun i => b_mod (i := i) (j := 2147483629) (by decide)
    have m5 := fun i => b_fdiv (i := i) (j := 32) (by decide)
    rw [cal_at (d := d__law_pick) rfl rfl]
    simp only [startR, exSs, exS, evE, evEs, evI, evO, evC, getR_0, getR_s, setR, tgR, wipeR, idx_tup, idx_lst, idx_dW0, idx_dW1, bi_len_t, bi_len_l, bi_all, bi_any, bi_min2, bi_max2, bi_tuple_l, bi_tuple_t, bi_list_l, bi_list_t, bi_int, bi_srt_l, bi_srt_t, bi_sset, bi_ssetT, chkB_bl, seq_t, seq_l, b_add, b_sub, ty_non, ty_bl, ty_int, ty_str, ty_tup, ty_lst, ty_dW, List.map_cons, List.map_nil, List.cons_append, List.nil_append, List.replicate_succ, List.replicate_zero, List.length_cons, List.length_nil, List.set_cons_zero, List.set_cons_succ, bnd_ok, bnd_bnd, noex_ok, opt_some, Option.map_some, Option.bind_some, List.getElem?_cons_zero, List.getElem?_cons_succ, ixD_0, ixD_1, ixD_2, cmpD_in, cmpD_inL, cmpD_not, cmpD_notL, cmpD_eq, cmpD_ne, cmpD_lt, cmpD_gt, cmpD_le, cmpD_ge, big0, big1, big2, big3, big4, big5, big6, big7, if_true, if_false, Nat.reduceAdd, Nat.reduceSub, Nat.reduceLT, ↓reduceIte, dec_lt, dec_le, dec_eq, eq_int, lst_of, Bool.false_eq_true, d__law_pick, b__law_pick, idx_box e, ha, decide_false, e, ixN2, idx_box (set_at e), m1, m2, m3, m4, m5, p1, ← hx, p2, bm, e1]
theorem m_pairs {k n : Nat} {s : S} (hn : n ≤ 7) : calD ds (k + 1) 26 [.int (n : Int)] s = .ok (.lst ((prs n).map dP)) s := by
  have hn' : n ≤ big := by unfold big; omega
  rw [cal_at (d := d__law_pairs) rfl rfl]
  simp only [startR, exSs, exS, evE, evEs, evI, evO, evC, getR_0, getR_s, setR, tgR, wipeR, idx_tup, idx_lst, idx_dW0, idx_dW1, bi_len_t, bi_len_l, bi_all, bi_any, bi_min2, bi_max2, bi_tuple_l, bi_tuple_t, bi_list_l, bi_list_t, bi_int, bi_srt_l, bi_srt_t, bi_sset, bi_ssetT, chkB_bl, seq_t, seq_l, b_add, b_sub, ty_non, ty_bl, ty_int, ty_str, ty_tup, ty_lst, ty_dW, List.map_cons, List.map_nil, List.cons_append, List.nil_append, List.replicate_succ, List.replicate_zero, List.length_cons, List.length_nil, List.set_cons_zero, List.set_cons_succ, bnd_ok, bnd_bnd, noex_ok, opt_some, Option.map_some, Option.bind_some, List.getElem?_cons_zero, List.getElem?_cons_succ, ixD_0, ixD_1, ixD_2, cmpD_in, cmpD_inL, cmpD_not, cmpD_notL, cmpD_eq, cmpD_ne, cmpD_lt, cmpD_gt, cmpD_le, cmpD_ge, big0, big1, big2, big3, big4, big5, big6, big7, if_true, if_false, Nat.reduceAdd, Nat.reduceSub, Nat.reduceLT, ↓reduceIte, dec_lt, dec_le, dec_eq, eq_int, lst_of, Bool.false_eq_true, d__law_pairs, b__law_pairs, setO, range_int n hn']
  refine for_run (g := dN) (P := fun done r => ∃ x y, r = [Sl.v (.int (n : Int)), .own ((done.flatMap fun a => (List.range (n - (a + 1))).map fun k => (a, a + 1 + k)).map dP), x, y]) ⟨_, _, rfl⟩ (fun a done rest r e h => ?_) (fun r h => ?_)
  · obtain ⟨x, y, rfl⟩ := h
    have ha : a < n ∧ done.length + 1 ≤ 7 := by
      have z : a ∈ List.range n := by rw [e]; simp
      have q : done.length + 1 ≤ (List.range n).length := by rw [e]; simp
      rw [List.length_range] at q
      exact ⟨by simpa using z, by omega⟩
    have r2 := range_int2 (a + 1) n (by unfold big; omega) hn'
    have hb : (done.flatMap fun a => (List.range (n - (a + 1))).map fun k => (a, a + 1 + k)).length ≤ done.length * 7 := flat_len fun a _ => by simp; omega
    generalize hU : (done.flatMap fun a => (List.range (n - (a + 1))).map fun k => (a, a + 1 + k)) = U at hb
    simp only [startR, exSs, exS, evE, evEs, evI, evO, evC, getR_0, getR_s, setR, tgR, wipeR, idx_tup, idx_lst, idx_dW0, idx_dW1, bi_len_t, bi_len_l, bi_all, bi_any, bi_min2, bi_max2, bi_tuple_l, bi_tuple_t, bi_list_l, bi_list_t, bi_int, bi_srt_l, bi_srt_t, bi_sset, bi_ssetT, chkB_bl, seq_t, seq_l, b_add, b_sub, ty_non, ty_bl, ty_int, ty_str, ty_tup, ty_lst, ty_dW, List.map_cons, List.map_nil, List.cons_append, List.nil_append, List.replicate_succ, List.replicate_zero, List.length_cons, List.length_nil, List.set_cons_zero, List.set_cons_succ, bnd_ok, bnd_bnd, noex_ok, opt_some, Option.map_some, Option.bind_some, List.getElem?_cons_zero, List.getElem?_cons_succ, ixD_0, ixD_1, ixD_2, cmpD_in, cmpD_inL, cmpD_not, cmpD_notL, cmpD_eq, cmpD_ne, cmpD_lt, cmpD_gt, cmpD_le, cmpD_ge, big0, big1, big2, big3, big4, big5, big6, big7, if_true, if_false, Nat.reduceAdd, Nat.reduceSub, Nat.reduceLT, ↓reduceIte, dec_lt, dec_le, dec_eq, eq_int, lst_of, Bool.false_eq_true, show ((a : Int) + 1) = ((a + 1 : Nat) : Int) by omega, r2]
    refine for_ex (g := fun k => dN (a + 1 + k)) (P := fun dn r => ∃ x, r = [Sl.v (.int (n : Int)), .own ((U ++ dn.map fun k => (a, a + 1 + k)).map dP), .v (dN a), x]) ⟨y, by simp⟩ (fun b dn rs r e h => ?_) (fun r h => ?_)
    · obtain ⟨x, rfl⟩ := h
      have hdn : dn.length + 1 ≤ 7 := by
        have q : dn.length + 1 ≤ (List.range (n - (a + 1))).length := by rw [e]; simp
        rw [List.length_range] at q; omega
      have hl : (U.map dP ++ (dn.map fun k => (a, a + 1 + k)).map dP).length < big := by
        simp only [List.length_map, List.length_append]; unfold big; omega
      refine ⟨[Sl.v (.int (n : Int)), .own ((U ++ (dn ++ [b]).map fun k => (a, a + 1 + k)).map dP), .v (dN a), .v (dN (a + 1 + b))], ?_, _, rfl⟩
      simp only [startR, exSs, exS, evE, evEs, evI, evO, evC, getR_0, getR_s, setR, tgR, wipeR, idx_tup, idx_lst, idx_dW0, idx_dW1, bi_len_t, bi_len_l, bi_all, bi_any, bi_min2, bi_max2, bi_tuple_l, bi_tuple_t, bi_list_l, bi_list_t, bi_int, bi_srt_l, bi_srt_t, bi_sset, bi_ssetT, chkB_bl, seq_t, seq_l, b_add, b_sub, ty_non, ty_bl, ty_int, ty_str, ty_tup, ty_lst, ty_dW, List.map_cons, List.map_nil, List.cons_append, List.nil_append, List.replicate_succ, List.replicate_zero, List.length_cons, List.length_nil, List.set_cons_zero, List.set_cons_succ, bnd_ok, bnd_bnd, noex_ok, opt_some, Option.map_some, Option.bind_some, List.getElem?_cons_zero, List.getElem?_cons_succ, ixD_0, ixD_1, ixD_2, cmpD_in, cmpD_inL, cmpD_not, cmpD_notL, cmpD_eq, cmpD_ne, cmpD_lt, cmpD_gt, cmpD_le, cmpD_ge, big0, big1, big2, big3, big4, big5, big6, big7, if_true, if_false, Nat.reduceAdd, Nat.reduceSub, Nat.reduceLT, ↓reduceIte, dec_lt, dec_le, dec_eq, eq_int, lst_of, Bool.false_eq_true, hl, List.map_append, List.append_assoc]
      rfl
    · obtain ⟨x, rfl⟩ := h
      exact ⟨_, rfl, .v (dN a), x, by simp only [List.flatMap_append, List.flatMap_cons, List.flatMap_nil, List.append_nil, hU]⟩
  · obtain ⟨x, y, rfl⟩ := h
    simp only [startR, exSs, exS, evE, evEs, evI, evO, evC, getR_0, getR_s, setR, tgR, wipeR, idx_tup, idx_lst, idx_dW0, idx_dW1, bi_len_t, bi_len_l, bi_all, bi_any, bi_min2, bi_max2, bi_tuple_l, bi_tuple_t, bi_list_l, bi_list_t, bi_int, bi_srt_l, bi_srt_t, bi_sset, bi_ssetT, chkB_bl, seq_t, seq_l, b_add, b_sub, ty_non, ty_bl, ty_int, ty_str, ty_tup, ty_lst, ty_dW, List.map_cons, List.map_nil, List.cons_append, List.nil_append, List.replicate_succ, List.replicate_zero, List.length_cons, List.length_nil, List.set_cons_zero, List.set_cons_succ, bnd_ok, bnd_bnd, noex_ok, opt_some, Option.map_some, Option.bind_some, List.getElem?_cons_zero, List.getElem?_cons_succ, ixD_0, ixD_1, ixD_2, cmpD_in, cmpD_inL, cmpD_not, cmpD_notL, cmpD_eq, cmpD_ne, cmpD_lt, cmpD_gt, cmpD_le, cmpD_ge, big0, big1, big2, big3, big4, big5, big6, big7, if_true, if_false, Nat.reduceAdd, Nat.reduceSub, Nat.reduceLT, ↓reduceIte, dec_lt, dec_le, dec_eq, eq_int, lst_of, Bool.false_eq_true]
    rfl
theorem m_deck {k : Nat} {cell : Int} {s : S} : ∃ s', calD ds (k + 1) 21 [.int cell, .int 9] s = .ok (.box s.length) s' ∧ Dk s.length s' 9 := by
  have p1 := b_pow (i := 10) (j := 18) ⟨by omega, by omega, by decide⟩
  have m1 := fun i => b_mod (i := i) (j := 2147483579) (by decide)
  obtain ⟨x1, x2⟩ := fmod_lt (i := cell) (j := 2147483579) (by omega)
  by_cases h : (10 : Int) ^ (18 : Int).toNat ≤ cell
  · refine ⟨s ++ [.lst [.int (cell - 10 ^ (18 : Int).toNat), .int (cell.fmod 2147483579), .int 9]], ?_, cell - 10 ^ (18 : Int).toNat, cell.fmod 2147483579, 9, app_at, x1, x2, by omega, by omega⟩
    rw [cal_at (d := d__law_deck) rfl rfl]
    simp only [startR, exSs, exS, evE, evEs, evI, evO, evC, getR_0, getR_s, setR, tgR, wipeR, idx_tup, idx_lst, idx_dW0, idx_dW1, bi_len_t, bi_len_l, bi_all, bi_any, bi_min2, bi_max2, bi_tuple_l, bi_tuple_t, bi_list_l, bi_list_t, bi_int, bi_srt_l, bi_srt_t, bi_sset, bi_ssetT, chkB_bl, seq_t, seq_l, b_add, b_sub, ty_non, ty_bl, ty_int, ty_str, ty_tup, ty_lst, ty_dW, List.map_cons, List.map_nil, List.cons_append, List.nil_append, List.replicate_succ, List.replicate_zero, List.length_cons, List.length_nil, List.set_cons_zero, List.set_cons_succ, bnd_ok, bnd_bnd, noex_ok, opt_some, Option.map_some, Option.bind_some, List.getElem?_cons_zero, List.getElem?_cons_succ, ixD_0, ixD_1, ixD_2, cmpD_in, cmpD_inL, cmpD_not, cmpD_notL, cmpD_eq, cmpD_ne, cmpD_lt, cmpD_gt, cmpD_le, cmpD_ge, big0, big1, big2, big3, big4, big5, big6, big7, if_true, if_false, Nat.reduceAdd, Nat.reduceSub, Nat.reduceLT, ↓reduceIte, dec_lt, dec_le, dec_eq, eq_int, lst_of, Bool.false_eq_true, d__law_deck, b__law_deck, p1, m1, h, decide_true]
  · refine ⟨s ++ [.lst [.int 0, .int (cell.fmod 2147483579), .int 9]], ?_, 0, cell.fmod 2147483579, 9, app_at, x1, x2, by omega, by omega⟩
    rw [cal_at (d := d__law_deck) rfl rfl]
    simp only [startR, exSs, exS, evE, evEs, evI, evO, evC, getR_0, getR_s, setR, tgR, wipeR, idx_tup, idx_lst, idx_dW0, idx_dW1, bi_len_t, bi_len_l, bi_all, bi_any, bi_min2, bi_max2, bi_tuple_l, bi_tuple_t, bi_list_l, bi_list_t, bi_int, bi_srt_l, bi_srt_t, bi_sset, bi_ssetT, chkB_bl, seq_t, seq_l, b_add, b_sub, ty_non, ty_bl, ty_int, ty_str, ty_tup, ty_lst, ty_dW, List.map_cons, List.map_nil, List.cons_append, List.nil_append, List.replicate_succ, List.replicate_zero, List.length_cons, List.length_nil, List.set_cons_zero, List.set_cons_succ, bnd_ok, bnd_bnd, noex_ok, opt_some, Option.map_some, Option.bind_some, List.getElem?_cons_zero, List.getElem?_cons_succ, ixD_0, ixD_1, ixD_2, cmpD_in, cmpD_inL, cmpD_not, cmpD_notL, cmpD_eq, cmpD_ne, cmpD_lt, cmpD_gt, cmpD_le, cmpD_ge, big0, big1, big2, big3, big4, big5, big6, big7, if_true, if_false, Nat.reduceAdd, Nat.reduceSub, Nat.reduceLT, ↓reduceIte, dec_lt, dec_le, dec_eq, eq_int, lst_of, Bool.false_eq_true, d__law_deck, b__law_deck, p1, m1, h, decide_false]
theorem m_lagainst {k n : Nat} {T : List (Nat × Nat)} {s : S} (hn : n ≤ 7) : calD ds (k + 2) 27 [dW n T] s = .ok (dW n (cT n T)) s := by
  rw [cal_at (d := d__law_against) rfl rfl]
  simp only [startR, exSs, exS, evE, evEs, evI, evO, evC, getR_0, getR_s, setR, tgR, wipeR, idx_tup, idx_lst, idx_dW0, idx_dW1, bi_len_t, bi_len_l, bi_all, bi_any, bi_min2, bi_max2, bi_tuple_l, bi_tuple_t, bi_list_l, bi_list_t, bi_int, bi_srt_l, bi_srt_t, bi_sset, bi_ssetT, chkB_bl, seq_t, seq_l, b_add, b_sub, ty_non, ty_bl, ty_int, ty_str, ty_tup, ty_lst, ty_dW, List.map_cons, List.map_nil, List.cons_append, List.nil_append, List.replicate_succ, List.replicate_zero, List.length_cons, List.length_nil, List.set_cons_zero, List.set_cons_succ, bnd_ok, bnd_bnd, noex_ok, opt_some, Option.map_some, Option.bind_some, List.getElem?_cons_zero, List.getElem?_cons_succ, ixD_0, ixD_1, ixD_2, cmpD_in, cmpD_inL, cmpD_not, cmpD_notL, cmpD_eq, cmpD_ne, cmpD_lt, cmpD_gt, cmpD_le, cmpD_ge, big0, big1, big2, big3, big4, big5, big6, big7, if_true, if_false, Nat.reduceAdd, Nat.reduceSub, Nat.reduceLT, ↓reduceIte, dec_lt, dec_le, dec_eq, eq_int, lst_of, Bool.false_eq_true, d__law_against, b__law_against, m_pairs hn, List.length_map, prs_big hn]
  refine lc_run (g := dP) (p := fun p => decide (p ∉ T)) (h := dP) (fun p _ => ?_) ?_
  · simp only [startR, exSs, exS, evE, evEs, evI, evO, evC, getR_0, getR_s, setR, tgR, wipeR, idx_tup, idx_lst, idx_dW0, idx_dW1, bi_len_t, bi_len_l, bi_all, bi_any, bi_min2, bi_max2, bi_tuple_l, bi_tuple_t, bi_list_l, bi_list_t, bi_int, bi_srt_l, bi_srt_t, bi_sset, bi_ssetT, chkB_bl, seq_t, seq_l, b_add, b_sub, ty_non, ty_bl, ty_int, ty_str, ty_tup, ty_lst, ty_dW, List.map_cons, List.map_nil, List.cons_append, List.nil_append, List.replicate_succ, List.replicate_zero, List.length_cons, List.length_nil, List.set_cons_zero, List.set_cons_succ, bnd_ok, bnd_bnd, noex_ok, opt_some, Option.map_some, Option.bind_some, List.getElem?_cons_zero, List.getElem?_cons_succ, ixD_0, ixD_1, ixD_2, cmpD_in, cmpD_inL, cmpD_not, cmpD_notL, cmpD_eq, cmpD_ne, cmpD_lt, cmpD_gt, cmpD_le, cmpD_ge, big0, big1, big2, big3, big4, big5, big6, big7, if_true, if_false, Nat.reduceAdd, Nat.reduceSub, Nat.reduceLT, ↓reduceIte, dec_lt, dec_le, dec_eq, eq_int, lst_of, Bool.false_eq_true, in_dP]
    by_cases h : p ∈ T <;> simp [h]
  · rfl
theorem m_lweb {k j m n : Nat} {s : S} (h : Dk j s m) (hm : m + 200 ≤ 1000000) (h0 : 1 ≤ n) (hn : n ≤ 7) : ∃ (T : List (Nat × Nat)) (s' : S), calD ds (k + 3) 28 [.box j, .int (n : Int)] s = .ok (dW n T) s' ∧ GoodW n T ∧ Dk j s' (m + 200) := by
  have hp := prs_len hn
  obtain ⟨way, s1, e1, w1, k1⟩ := m_pick (k := k + 1) (size := 4) h (by omega) (by omega) (by omega)
  have e1 : calD ds (k + 2) 22 [.box j, .int 4] s = .ok (.int (way : Int)) s1 := e1
  have pk : ∀ {s : S} {m : Nat}, Dk j s m → m ≤ 1000000 → ∃ (v : Nat) (s' : S), calD ds (k + 2) 22 [.box j, .int 2] s = .ok (.int (v : Int)) s' ∧ v < 2 ∧ Dk j s' (m + 1) := fun h hm => m_pick (k := k + 1) (size := 2) h hm (by omega) (by omega)
  rw [cal_at (d := d__law_web) rfl rfl]
  simp only [startR, exSs, exS, evE, evEs, evI, evO, evC, getR_0, getR_s, setR, tgR, wipeR, idx_tup, idx_lst, idx_dW0, idx_dW1, bi_len_t, bi_len_l, bi_all, bi_any, bi_min2, bi_max2, bi_tuple_l, bi_tuple_t, bi_list_l, bi_list_t, bi_int, bi_srt_l, bi_srt_t, bi_sset, bi_ssetT, chkB_bl, seq_t, seq_l, b_add, b_sub, ty_non, ty_bl, ty_int, ty_str, ty_tup, ty_lst, ty_dW, List.map_cons, List.map_nil, List.cons_append, List.nil_append, List.replicate_succ, List.replicate_zero, List.length_cons, List.length_nil, List.set_cons_zero, List.set_cons_succ, bnd_ok, bnd_bnd, noex_ok, opt_some, Option.map_some, Option.bind_some, List.getElem?_cons_zero, List.getElem?_cons_succ, ixD_0, ixD_1, ixD_2, cmpD_in, cmpD_inL, cmpD_not, cmpD_notL, cmpD_eq, cmpD_ne, cmpD_lt, cmpD_gt, cmpD_le, cmpD_ge, big0, big1, big2, big3, big4, big5, big6, big7, if_true, if_false, Nat.reduceAdd, Nat.reduceSub, Nat.reduceLT, ↓reduceIte, dec_lt, dec_le, dec_eq, eq_int, lst_of, Bool.false_eq_true, d__law_web, b__law_web, e1, m_pairs hn, parR, List.length_map, prs_big hn]
  refine lc_dk_run (bd := 1000000) (G := fun o => ∃ (T : List (Nat × Nat)) (s' : S), o = .ok (dW n T) s' ∧ GoodW n T ∧ Dk j s' (m + 200)) (L := prs n) k1 (by omega) (fun p s m h hm => ?_) fun U s2 u1 u2 k2 => ?_
  · obtain ⟨v, s', e, _, h'⟩ := pk h hm
    refine ⟨decide ((v : Int) = 0), s', ?_, h'⟩
    simp only [startR, exSs, exS, evE, evEs, evI, evO, evC, getR_0, getR_s, setR, tgR, wipeR, idx_tup, idx_lst, idx_dW0, idx_dW1, bi_len_t, bi_len_l, bi_all, bi_any, bi_min2, bi_max2, bi_tuple_l, bi_tuple_t, bi_list_l, bi_list_t, bi_int, bi_srt_l, bi_srt_t, bi_sset, bi_ssetT, chkB_bl, seq_t, seq_l, b_add, b_sub, ty_non, ty_bl, ty_int, ty_str, ty_tup, ty_lst, ty_dW, List.map_cons, List.map_nil, List.cons_append, List.nil_append, List.replicate_succ, List.replicate_zero, List.length_cons, List.length_nil, List.set_cons_zero, List.set_cons_succ, bnd_ok, bnd_bnd, noex_ok, opt_some, Option.map_some, Option.bind_some, List.getElem?_cons_zero, List.getElem?_cons_succ, ixD_0, ixD_1, ixD_2, cmpD_in, cmpD_inL, cmpD_not, cmpD_notL, cmpD_eq, cmpD_ne, cmpD_lt, cmpD_gt, cmpD_le, cmpD_ge, big0, big1, big2, big3, big4, big5, big6, big7, if_true, if_false, Nat.reduceAdd, Nat.reduceSub, Nat.reduceLT, ↓reduceIte, dec_lt, dec_le, dec_eq, eq_int, lst_of, Bool.false_eq_true, e]
    by_cases z : (v : Int) = 0
    · simp only [z, decide_true, startR, exSs, exS, evE, evEs, evI, evO, evC, getR_0, getR_s, setR, tgR, wipeR, idx_tup, idx_lst, idx_dW0, idx_dW1, bi_len_t, bi_len_l, bi_all, bi_any, bi_min2, bi_max2, bi_tuple_l, bi_tuple_t, bi_list_l, bi_list_t, bi_int, bi_srt_l, bi_srt_t, bi_sset, bi_ssetT, chkB_bl, seq_t, seq_l, b_add, b_sub, ty_non, ty_bl, ty_int, ty_str, ty_tup, ty_lst, ty_dW, List.map_cons, List.map_nil, List.cons_append, List.nil_append, List.replicate_succ, List.replicate_zero, List.length_cons, List.length_nil, List.set_cons_zero, List.set_cons_succ, bnd_ok, bnd_bnd, noex_ok, opt_some, Option.map_some, Option.bind_some, List.getElem?_cons_zero, List.getElem?_cons_succ, ixD_0, ixD_1, ixD_2, cmpD_in, cmpD_inL, cmpD_not, cmpD_notL, cmpD_eq, cmpD_ne, cmpD_lt, cmpD_gt, cmpD_le, cmpD_ge, big0, big1, big2, big3, big4, big5, big6, big7, if_true, if_false, Nat.reduceAdd, Nat.reduceSub, Nat.reduceLT, ↓reduceIte, dec_lt, dec_le, dec_eq, eq_int, lst_of, Bool.false_eq_true]
    · simp only [z, decide_false, startR, exSs, exS, evE, evEs, evI, evO, evC, getR_0, getR_s, setR, tgR, wipeR, idx_tup, idx_lst, idx_dW0, idx_dW1, bi_len_t, bi_len_l, bi_all, bi_any, bi_min2, bi_max2, bi_tuple_l, bi_tuple_t, bi_list_l, bi_list_t, bi_int, bi_srt_l, bi_srt_t, bi_sset, bi_ssetT, chkB_bl, seq_t, seq_l, b_add, b_sub, ty_non, ty_bl, ty_int, ty_str, ty_tup, ty_lst, ty_dW, List.map_cons, List.map_nil, List.cons_append, List.nil_append, List.replicate_succ, List.replicate_zero, List.length_cons, List.length_nil, List.set_cons_zero, List.set_cons_succ, bnd_ok, bnd_bnd, noex_ok, opt_some, Option.map_some, Option.bind_some, List.getElem?_cons_zero, List.getElem?_cons_succ, ixD_0, ixD_1, ixD_2, cmpD_in, cmpD_inL, cmpD_not, cmpD_notL, cmpD_eq, cmpD_ne, cmpD_lt, cmpD_gt, cmpD_le, cmpD_ge, big0, big1, big2, big3, big4, big5, big6, big7, if_true, if_false, Nat.reduceAdd, Nat.reduceSub, Nat.reduceLT, ↓reduceIte, dec_lt, dec_le, dec_eq, eq_int, lst_of, Bool.false_eq_true]
  · by_cases hc : 1 < way ∧ 4 < n
    · have c1 : decide (1 < (way : Int)) = true := decide_eq_true (by omega)
      have c2 : decide (4 < (n : Int)) = true := decide_eq_true (by omega)
      obtain ⟨v, s3, e3, v1, k3⟩ := m_pick (k := k + 1) (size := n - 4) k2 (by omega) (by omega) (by omega)
      have e3 : calD ds (k + 2) 22 [.box j, .int ((n : Int) - 4)] s2 = .ok (.int (v : Int)) s3 := by
        rw [show (n : Int) - 4 = ((n - 4 : Nat) : Int) by omega]; exact e3
      have r1 := range_int (5 + v - 1) (by unfold big; omega)
      have r1 : rangeD [.int (5 + (v : Int) - 1)] = some ((List.range (5 + v - 1)).map dN) := by
        rw [show (5 : Int) + (v : Int) - 1 = ((5 + v - 1 : Nat) : Int) by omega]; exact r1
      simp only [startR, exSs, exS, evE, evEs, evI, evO, evC, getR_0, getR_s, setR, tgR, wipeR, idx_tup, idx_lst, idx_dW0, idx_dW1, bi_len_t, bi_len_l, bi_all, bi_any, bi_min2, bi_max2, bi_tuple_l, bi_tuple_t, bi_list_l, bi_list_t, bi_int, bi_srt_l, bi_srt_t, bi_sset, bi_ssetT, chkB_bl, seq_t, seq_l, b_add, b_sub, ty_non, ty_bl, ty_int, ty_str, ty_tup, ty_lst, ty_dW, List.map_cons, List.map_nil, List.cons_append, List.nil_append, List.replicate_succ, List.replicate_zero, List.length_cons, List.length_nil, List.set_cons_zero, List.set_cons_succ, bnd_ok, bnd_bnd, noex_ok, opt_some, Option.map_some, Option.bind_some, List.getElem?_cons_zero, List.getElem?_cons_succ, ixD_0, ixD_1, ixD_2, cmpD_in, cmpD_inL, cmpD_not, cmpD_notL, cmpD_eq, cmpD_ne, cmpD_lt, cmpD_gt, cmpD_le, cmpD_ge, big0, big1, big2, big3, big4, big5, big6, big7, if_true, if_false, Nat.reduceAdd, Nat.reduceSub, Nat.reduceLT, ↓reduceIte, dec_lt, dec_le, dec_eq, eq_int, lst_of, Bool.false_eq_true, c1, c2, e3, r1, List.length_map, List.length_range, show 5 + v - 1 ≤ big by unfold big; omega]
      rw [lc_mapA (g := dN) (h := fun a => dP (a, a + 1)) (fun a _ => by simp only [startR, exSs, exS, evE, evEs, evI, evO, evC, getR_0, getR_s, setR, tgR, wipeR, idx_tup, idx_lst, idx_dW0, idx_dW1, bi_len_t, bi_len_l, bi_all, bi_any, bi_min2, bi_max2, bi_tuple_l, bi_tuple_t, bi_list_l, bi_list_t, bi_int, bi_srt_l, bi_srt_t, bi_sset, bi_ssetT, chkB_bl, seq_t, seq_l, b_add, b_sub, ty_non, ty_bl, ty_int, ty_str, ty_tup, ty_lst, ty_dW, List.map_cons, List.map_nil, List.cons_append, List.nil_append, List.replicate_succ, List.replicate_zero, List.length_cons, List.length_nil, List.set_cons_zero, List.set_cons_succ, bnd_ok, bnd_bnd, noex_ok, opt_some, Option.map_some, Option.bind_some, List.getElem?_cons_zero, List.getElem?_cons_succ, ixD_0, ixD_1, ixD_2, cmpD_in, cmpD_inL, cmpD_not, cmpD_notL, cmpD_eq, cmpD_ne, cmpD_lt, cmpD_gt, cmpD_le, cmpD_ge, big0, big1, big2, big3, big4, big5, big6, big7, if_true, if_false, Nat.reduceAdd, Nat.reduceSub, Nat.reduceLT, ↓reduceIte, dec_lt, dec_le, dec_eq, eq_int, lst_of, Bool.false_eq_true]; rfl)]
      obtain ⟨row, hrow⟩ : ∃ row : List (Nat × Nat), row = (List.range (5 + v - 1)).map (fun a => (a, a + 1)) ++ [(0, 5 + v - 1)] := ⟨_, rfl⟩
      have lrow : row.length = 5 + v := by rw [hrow]; simp; omega
      have brow : ∀ p ∈ row, p.1 < p.2 ∧ p.2 < n := fun p hp => by
        rw [hrow] at hp
        rcases List.mem_append.mp hp with z | z
        · obtain ⟨a, ha, rfl⟩ := List.mem_map.mp z
          have ha : a < 5 + v - 1 := by simpa using ha
          show a < a + 1 ∧ a + 1 < n
          omega
        · have e : p = (0, 5 + v - 1) := by simpa using z
          rw [e]
          show 0 < 5 + v - 1 ∧ 5 + v - 1 < n
          omega
      have arow : binD .add (.lst ((List.range (5 + v - 1)).map fun a => dP (a, a + 1))) (.lst [.tup [.int 0, .int (5 + (v : Int) - 1)]]) = some (.lst (row.map dP)) := by
        rw [b_addL (by simp only [List.length_map, List.length_range, List.length_cons, List.length_nil]; unfold big; omega)]
        rw [hrow, List.map_append, List.map_map, show (5 : Int) + (v : Int) - 1 = ((5 + v - 1 : Nat) : Int) by omega]
        rfl
      simp only [startR, exSs, exS, evE, evEs, evI, evO, evC, getR_0, getR_s, setR, tgR, wipeR, idx_tup, idx_lst, idx_dW0, idx_dW1, bi_len_t, bi_len_l, bi_all, bi_any, bi_min2, bi_max2, bi_tuple_l, bi_tuple_t, bi_list_l, bi_list_t, bi_int, bi_srt_l, bi_srt_t, bi_sset, bi_ssetT, chkB_bl, seq_t, seq_l, b_add, b_sub, ty_non, ty_bl, ty_int, ty_str, ty_tup, ty_lst, ty_dW, List.map_cons, List.map_nil, List.cons_append, List.nil_append, List.replicate_succ, List.replicate_zero, List.length_cons, List.length_nil, List.set_cons_zero, List.set_cons_succ, bnd_ok, bnd_bnd, noex_ok, opt_some, Option.map_some, Option.bind_some, List.getElem?_cons_zero, List.getElem?_cons_succ, ixD_0, ixD_1, ixD_2, cmpD_in, cmpD_inL, cmpD_not, cmpD_notL, cmpD_eq, cmpD_ne, cmpD_lt, cmpD_gt, cmpD_le, cmpD_ge, big0, big1, big2, big3, big4, big5, big6, big7, if_true, if_false, Nat.reduceAdd, Nat.reduceSub, Nat.reduceLT, ↓reduceIte, dec_lt, dec_le, dec_eq, eq_int, lst_of, Bool.false_eq_true, arow]
      refine lc_dk_run (bd := 1000000) (G := fun o => ∃ (T : List (Nat × Nat)) (s' : S), o = .ok (dW n T) s' ∧ GoodW n T ∧ Dk j s' (m + 200)) (L := prs n) k3 (by omega) (fun p s m h hm => ?_) fun U2 s4 u3 u4 k4 => ?_
      · by_cases z : 5 + v ≤ p.2
        · obtain ⟨x, s', e, _, h'⟩ := pk h hm
          have z' : decide (5 + (v : Int) ≤ (p.2 : Int)) = true := decide_eq_true (by omega)
          refine ⟨decide ((x : Int) = 0), s', ?_, h'⟩
          have i1 : idxD (dP p) (.int 1) s = some (.int (p.2 : Int)) := ixD_1
          simp only [startR, exSs, exS, evE, evEs, evI, evO, evC, getR_0, getR_s, setR, tgR, wipeR, idx_tup, idx_lst, idx_dW0, idx_dW1, bi_len_t, bi_len_l, bi_all, bi_any, bi_min2, bi_max2, bi_tuple_l, bi_tuple_t, bi_list_l, bi_list_t, bi_int, bi_srt_l, bi_srt_t, bi_sset, bi_ssetT, chkB_bl, seq_t, seq_l, b_add, b_sub, ty_non, ty_bl, ty_int, ty_str, ty_tup, ty_lst, ty_dW, List.map_cons, List.map_nil, List.cons_append, List.nil_append, List.replicate_succ, List.replicate_zero, List.length_cons, List.length_nil, List.set_cons_zero, List.set_cons_succ, bnd_ok, bnd_bnd, noex_ok, opt_some, Option.map_some, Option.bind_some, List.getElem?_cons_zero, List.getElem?_cons_succ, ixD_0, ixD_1, ixD_2, cmpD_in, cmpD_inL, cmpD_not, cmpD_notL, cmpD_eq, cmpD_ne, cmpD_lt, cmpD_gt, cmpD_le, cmpD_ge, big0, big1, big2, big3, big4, big5, big6, big7, if_true, if_false, Nat.reduceAdd, Nat.reduceSub, Nat.reduceLT, ↓reduceIte, dec_lt, dec_le, dec_eq, eq_int, lst_of, Bool.false_eq_true, e, i1, z']
          by_cases z : (x : Int) = 0
          · simp only [z, decide_true, startR, exSs, exS, evE, evEs, evI, evO, evC, getR_0, getR_s, setR, tgR, wipeR, idx_tup, idx_lst, idx_dW0, idx_dW1, bi_len_t, bi_len_l, bi_all, bi_any, bi_min2, bi_max2, bi_tuple_l, bi_tuple_t, bi_list_l, bi_list_t, bi_int, bi_srt_l, bi_srt_t, bi_sset, bi_ssetT, chkB_bl, seq_t, seq_l, b_add, b_sub, ty_non, ty_bl, ty_int, ty_str, ty_tup, ty_lst, ty_dW, List.map_cons, List.map_nil, List.cons_append, List.nil_append, List.replicate_succ, List.replicate_zero, List.length_cons, List.length_nil, List.set_cons_zero, List.set_cons_succ, bnd_ok, bnd_bnd, noex_ok, opt_some, Option.map_some, Option.bind_some, List.getElem?_cons_zero, List.getElem?_cons_succ, ixD_0, ixD_1, ixD_2, cmpD_in, cmpD_inL, cmpD_not, cmpD_notL, cmpD_eq, cmpD_ne, cmpD_lt, cmpD_gt, cmpD_le, cmpD_ge, big0, big1, big2, big3, big4, big5, big6, big7, if_true, if_false, Nat.reduceAdd, Nat.reduceSub, Nat.reduceLT, ↓reduceIte, dec_lt, dec_le, dec_eq, eq_int, lst_of, Bool.false_eq_true]
          · simp only [z, decide_false, startR, exSs, exS, evE, evEs, evI, evO, evC, getR_0, getR_s, setR, tgR, wipeR, idx_tup, idx_lst, idx_dW0, idx_dW1, bi_len_t, bi_len_l, bi_all, bi_any, bi_min2, bi_max2, bi_tuple_l, bi_tuple_t, bi_list_l, bi_list_t, bi_int, bi_srt_l, bi_srt_t, bi_sset, bi_ssetT, chkB_bl, seq_t, seq_l, b_add, b_sub, ty_non, ty_bl, ty_int, ty_str, ty_tup, ty_lst, ty_dW, List.map_cons, List.map_nil, List.cons_append, List.nil_append, List.replicate_succ, List.replicate_zero, List.length_cons, List.length_nil, List.set_cons_zero, List.set_cons_succ, bnd_ok, bnd_bnd, noex_ok, opt_some, Option.map_some, Option.bind_some, List.getElem?_cons_zero, List.getElem?_cons_succ, ixD_0, ixD_1, ixD_2, cmpD_in, cmpD_inL, cmpD_not, cmpD_notL, cmpD_eq, cmpD_ne, cmpD_lt, cmpD_gt, cmpD_le, cmpD_ge, big0, big1, big2, big3, big4, big5, big6, big7, if_true, if_false, Nat.reduceAdd, Nat.reduceSub, Nat.reduceLT, ↓reduceIte, dec_lt, dec_le, dec_eq, eq_int, lst_of, Bool.false_eq_true]
        · have z' : decide (5 + (v : Int) ≤ (p.2 : Int)) = false := decide_eq_false (by omega)
          refine ⟨false, s, ?_, h.mono (Nat.le_succ _)⟩
          have i1 : idxD (dP p) (.int 1) s = some (.int (p.2 : Int)) := ixD_1
          simp only [startR, exSs, exS, evE, evEs, evI, evO, evC, getR_0, getR_s, setR, tgR, wipeR, idx_tup, idx_lst, idx_dW0, idx_dW1, bi_len_t, bi_len_l, bi_all, bi_any, bi_min2, bi_max2, bi_tuple_l, bi_tuple_t, bi_list_l, bi_list_t, bi_int, bi_srt_l, bi_srt_t, bi_sset, bi_ssetT, chkB_bl, seq_t, seq_l, b_add, b_sub, ty_non, ty_bl, ty_int, ty_str, ty_tup, ty_lst, ty_dW, List.map_cons, List.map_nil, List.cons_append, List.nil_append, List.replicate_succ, List.replicate_zero, List.length_cons, List.length_nil, List.set_cons_zero, List.set_cons_succ, bnd_ok, bnd_bnd, noex_ok, opt_some, Option.map_some, Option.bind_some, List.getElem?_cons_zero, List.getElem?_cons_succ, ixD_0, ixD_1, ixD_2, cmpD_in, cmpD_inL, cmpD_not, cmpD_notL, cmpD_eq, cmpD_ne, cmpD_lt, cmpD_gt, cmpD_le, cmpD_ge, big0, big1, big2, big3, big4, big5, big6, big7, if_true, if_false, Nat.reduceAdd, Nat.reduceSub, Nat.reduceLT, ↓reduceIte, dec_lt, dec_le, dec_eq, eq_int, lst_of, Bool.false_eq_true, i1, z']
      · have ad : binD .add (.lst (row.map dP)) (.lst (U2.map dP)) = some (.lst ((row ++ U2).map dP)) := by
          rw [b_addL (by simp only [List.length_map]; unfold big; omega), List.map_append]
        have bR : ∀ p ∈ row ++ U2, p.1 < p.2 ∧ p.2 < n := fun p hp => by
          rcases List.mem_append.mp hp with z | z
          · exact brow p z
          · exact prs_mem.mp (u3 p z)
        have lR : (row ++ U2).length ≤ 56 := by rw [List.length_append]; omega
        obtain ⟨y, s5, e5, y1, k5⟩ := pk k4 (by omega)
        simp only [startR, exSs, exS, evE, evEs, evI, evO, evC, getR_0, getR_s, setR, tgR, wipeR, idx_tup, idx_lst, idx_dW0, idx_dW1, bi_len_t, bi_len_l, bi_all, bi_any, bi_min2, bi_max2, bi_tuple_l, bi_tuple_t, bi_list_l, bi_list_t, bi_int, bi_srt_l, bi_srt_t, bi_sset, bi_ssetT, chkB_bl, seq_t, seq_l, b_add, b_sub, ty_non, ty_bl, ty_int, ty_str, ty_tup, ty_lst, ty_dW, List.map_cons, List.map_nil, List.cons_append, List.nil_append, List.replicate_succ, List.replicate_zero, List.length_cons, List.length_nil, List.set_cons_zero, List.set_cons_succ, bnd_ok, bnd_bnd, noex_ok, opt_some, Option.map_some, Option.bind_some, List.getElem?_cons_zero, List.getElem?_cons_succ, ixD_0, ixD_1, ixD_2, cmpD_in, cmpD_inL, cmpD_not, cmpD_notL, cmpD_eq, cmpD_ne, cmpD_lt, cmpD_gt, cmpD_le, cmpD_ge, big0, big1, big2, big3, big4, big5, big6, big7, if_true, if_false, Nat.reduceAdd, Nat.reduceSub, Nat.reduceLT, ↓reduceIte, dec_lt, dec_le, dec_eq, eq_int, lst_of, Bool.false_eq_true, ad, e5]
        by_cases hy : y = 0
        · have ey : decide ((y : Int) = 0) = true := decide_eq_true (by omega)
          have hpp : 1 ≤ (prs n).length := by
            have : (0, 1) ∈ prs n := prs_mem.mpr ⟨by decide, by show 1 < n; omega⟩
            exact List.length_pos_of_mem this
          obtain ⟨x, s6, e6, x1, k6⟩ := m_pick (k := k + 1) (size := (prs n).length) k5 (by omega) hpp (by omega)
          have i6 : idxD (.lst ((prs n).map dP)) (.int (x : Int)) s6 = some (dP (prs n)[x]) := ixD_dP x1
          have ad2 : binD .add (.lst ((row ++ U2).map dP)) (.lst [dP (prs n)[x]]) = some (.lst ((row ++ U2 ++ [(prs n)[x]]).map dP)) := by
            rw [b_addL (by simp only [List.length_map, List.length_cons, List.length_nil]; unfold big; omega), List.map_append (l₂ := [(prs n)[x]])]; rfl
          simp only [startR, exSs, exS, evE, evEs, evI, evO, evC, getR_0, getR_s, setR, tgR, wipeR, idx_tup, idx_lst, idx_dW0, idx_dW1, bi_len_t, bi_len_l, bi_all, bi_any, bi_min2, bi_max2, bi_tuple_l, bi_tuple_t, bi_list_l, bi_list_t, bi_int, bi_srt_l, bi_srt_t, bi_sset, bi_ssetT, chkB_bl, seq_t, seq_l, b_add, b_sub, ty_non, ty_bl, ty_int, ty_str, ty_tup, ty_lst, ty_dW, List.map_cons, List.map_nil, List.cons_append, List.nil_append, List.replicate_succ, List.replicate_zero, List.length_cons, List.length_nil, List.set_cons_zero, List.set_cons_succ, bnd_ok, bnd_bnd, noex_ok, opt_some, Option.map_some, Option.bind_some, List.getElem?_cons_zero, List.getElem?_cons_succ, ixD_0, ixD_1, ixD_2, cmpD_in, cmpD_inL, cmpD_not, cmpD_notL, cmpD_eq, cmpD_ne, cmpD_lt, cmpD_gt, cmpD_le, cmpD_ge, big0, big1, big2, big3, big4, big5, big6, big7, if_true, if_false, Nat.reduceAdd, Nat.reduceSub, Nat.reduceLT, ↓reduceIte, dec_lt, dec_le, dec_eq, eq_int, lst_of, Bool.false_eq_true, ey, e6, i6, ad2]
          have bL : ∀ p ∈ row ++ U2 ++ [(prs n)[x]], p.1 < p.2 ∧ p.2 < n := fun p hp => by
            rcases List.mem_append.mp hp with z | z
            · exact bR p z
            · have e : p = (prs n)[x] := by simpa using z
              rw [e]; exact prs_mem.mp (List.getElem_mem _)
          have lL : (row ++ U2 ++ [(prs n)[x]]).length < 64 := by rw [List.length_append]; simp; simp at lR; omega
          have dL := k6.mono (show _ ≤ m + 200 by omega)
          obtain ⟨T, t1, t2, t3, t4⟩ := sset_pairs hn bL lL
          have G : GoodW n T := ⟨h0, hn, t2, fun p hp => bL p ((t3 p).mp hp), by omega⟩
          simp only [startR, exSs, exS, evE, evEs, evI, evO, evC, getR_0, getR_s, setR, tgR, wipeR, idx_tup, idx_lst, idx_dW0, idx_dW1, bi_len_t, bi_len_l, bi_all, bi_any, bi_min2, bi_max2, bi_tuple_l, bi_tuple_t, bi_list_l, bi_list_t, bi_int, bi_srt_l, bi_srt_t, bi_sset, bi_ssetT, chkB_bl, seq_t, seq_l, b_add, b_sub, ty_non, ty_bl, ty_int, ty_str, ty_tup, ty_lst, ty_dW, List.map_cons, List.map_nil, List.cons_append, List.nil_append, List.replicate_succ, List.replicate_zero, List.length_cons, List.length_nil, List.set_cons_zero, List.set_cons_succ, bnd_ok, bnd_bnd, noex_ok, opt_some, Option.map_some, Option.bind_some, List.getElem?_cons_zero, List.getElem?_cons_succ, ixD_0, ixD_1, ixD_2, cmpD_in, cmpD_inL, cmpD_not, cmpD_notL, cmpD_eq, cmpD_ne, cmpD_lt, cmpD_gt, cmpD_le, cmpD_ge, big0, big1, big2, big3, big4, big5, big6, big7, if_true, if_false, Nat.reduceAdd, Nat.reduceSub, Nat.reduceLT, ↓reduceIte, dec_lt, dec_le, dec_eq, eq_int, lst_of, Bool.false_eq_true, t1]
          by_cases h3 : way = 3
          · have e3 : decide ((way : Int) = 3) = true := decide_eq_true (by omega)
            refine ⟨cT n T, _, ?_, good_cT G, dL⟩
            have q := fun s => m_lagainst (k := k) (T := T) (s := s) hn
            simp only [dW] at q
            simp only [startR, exSs, exS, evE, evEs, evI, evO, evC, getR_0, getR_s, setR, tgR, wipeR, idx_tup, idx_lst, idx_dW0, idx_dW1, bi_len_t, bi_len_l, bi_all, bi_any, bi_min2, bi_max2, bi_tuple_l, bi_tuple_t, bi_list_l, bi_list_t, bi_int, bi_srt_l, bi_srt_t, bi_sset, bi_ssetT, chkB_bl, seq_t, seq_l, b_add, b_sub, ty_non, ty_bl, ty_int, ty_str, ty_tup, ty_lst, ty_dW, List.map_cons, List.map_nil, List.cons_append, List.nil_append, List.replicate_succ, List.replicate_zero, List.length_cons, List.length_nil, List.set_cons_zero, List.set_cons_succ, bnd_ok, bnd_bnd, noex_ok, opt_some, Option.map_some, Option.bind_some, List.getElem?_cons_zero, List.getElem?_cons_succ, ixD_0, ixD_1, ixD_2, cmpD_in, cmpD_inL, cmpD_not, cmpD_notL, cmpD_eq, cmpD_ne, cmpD_lt, cmpD_gt, cmpD_le, cmpD_ge, big0, big1, big2, big3, big4, big5, big6, big7, if_true, if_false, Nat.reduceAdd, Nat.reduceSub, Nat.reduceLT, ↓reduceIte, dec_lt, dec_le, dec_eq, eq_int, lst_of, Bool.false_eq_true, e3, q]
            rfl
          · have e3 : decide ((way : Int) = 3) = false := decide_eq_false (by omega)
            refine ⟨T, _, ?_, G, dL⟩
            simp only [startR, exSs, exS, evE, evEs, evI, evO, evC, getR_0, getR_s, setR, tgR, wipeR, idx_tup, idx_lst, idx_dW0, idx_dW1, bi_len_t, bi_len_l, bi_all, bi_any, bi_min2, bi_max2, bi_tuple_l, bi_tuple_t, bi_list_l, bi_list_t, bi_int, bi_srt_l, bi_srt_t, bi_sset, bi_ssetT, chkB_bl, seq_t, seq_l, b_add, b_sub, ty_non, ty_bl, ty_int, ty_str, ty_tup, ty_lst, ty_dW, List.map_cons, List.map_nil, List.cons_append, List.nil_append, List.replicate_succ, List.replicate_zero, List.length_cons, List.length_nil, List.set_cons_zero, List.set_cons_succ, bnd_ok, bnd_bnd, noex_ok, opt_some, Option.map_some, Option.bind_some, List.getElem?_cons_zero, List.getElem?_cons_succ, ixD_0, ixD_1, ixD_2, cmpD_in, cmpD_inL, cmpD_not, cmpD_notL, cmpD_eq, cmpD_ne, cmpD_lt, cmpD_gt, cmpD_le, cmpD_ge, big0, big1, big2, big3, big4, big5, big6, big7, if_true, if_false, Nat.reduceAdd, Nat.reduceSub, Nat.reduceLT, ↓reduceIte, dec_lt, dec_le, dec_eq, eq_int, lst_of, Bool.false_eq_true, e3]
            rfl
        · have ey : decide ((y : Int) = 0) = false := decide_eq_false (by omega)
          simp only [startR, exSs, exS, evE, evEs, evI, evO, evC, getR_0, getR_s, setR, tgR, wipeR, idx_tup, idx_lst, idx_dW0, idx_dW1, bi_len_t, bi_len_l, bi_all, bi_any, bi_min2, bi_max2, bi_tuple_l, bi_tuple_t, bi_list_l, bi_list_t, bi_int, bi_srt_l, bi_srt_t, bi_sset, bi_ssetT, chkB_bl, seq_t, seq_l, b_add, b_sub, ty_non, ty_bl, ty_int, ty_str, ty_tup, ty_lst, ty_dW, List.map_cons, List.map_nil, List.cons_append, List.nil_append, List.replicate_succ, List.replicate_zero, List.length_cons, List.length_nil, List.set_cons_zero, List.set_cons_succ, bnd_ok, bnd_bnd, noex_ok, opt_some, Option.map_some, Option.bind_some, List.getElem?_cons_zero, List.getElem?_cons_succ, ixD_0, ixD_1, ixD_2, cmpD_in, cmpD_inL, cmpD_not, cmpD_notL, cmpD_eq, cmpD_ne, cmpD_lt, cmpD_gt, cmpD_le, cmpD_ge, big0, big1, big2, big3, big4, big5, big6, big7, if_true, if_false, Nat.reduceAdd, Nat.reduceSub, Nat.reduceLT, ↓reduceIte, dec_lt, dec_le, dec_eq, eq_int, lst_of, Bool.false_eq_true, ey]
          have bL := bR
          have lL : (row ++ U2).length < 64 := by omega
          have dL := k5.mono (show _ ≤ m + 200 by omega)
          obtain ⟨T, t1, t2, t3, t4⟩ := sset_pairs hn bL lL
          have G : GoodW n T := ⟨h0, hn, t2, fun p hp => bL p ((t3 p).mp hp), by omega⟩
          simp only [startR, exSs, exS, evE, evEs, evI, evO, evC, getR_0, getR_s, setR, tgR, wipeR, idx_tup, idx_lst, idx_dW0, idx_dW1, bi_len_t, bi_len_l, bi_all, bi_any, bi_min2, bi_max2, bi_tuple_l, bi_tuple_t, bi_list_l, bi_list_t, bi_int, bi_srt_l, bi_srt_t, bi_sset, bi_ssetT, chkB_bl, seq_t, seq_l, b_add, b_sub, ty_non, ty_bl, ty_int, ty_str, ty_tup, ty_lst, ty_dW, List.map_cons, List.map_nil, List.cons_append, List.nil_append, List.replicate_succ, List.replicate_zero, List.length_cons, List.length_nil, List.set_cons_zero, List.set_cons_succ, bnd_ok, bnd_bnd, noex_ok, opt_some, Option.map_some, Option.bind_some, List.getElem?_cons_zero, List.getElem?_cons_succ, ixD_0, ixD_1, ixD_2, cmpD_in, cmpD_inL, cmpD_not, cmpD_notL, cmpD_eq, cmpD_ne, cmpD_lt, cmpD_gt, cmpD_le, cmpD_ge, big0, big1, big2, big3, big4, big5, big6, big7, if_true, if_false, Nat.reduceAdd, Nat.reduceSub, Nat.reduceLT, ↓reduceIte, dec_lt, dec_le, dec_eq, eq_int, lst_of, Bool.false_eq_true, t1]
          by_cases h3 : way = 3
          · have e3 : decide ((way : Int) = 3) = true := decide_eq_true (by omega)
            refine ⟨cT n T, _, ?_, good_cT G, dL⟩
            have q := fun s => m_lagainst (k := k) (T := T) (s := s) hn
            simp only [dW] at q
            simp only [startR, exSs, exS, evE, evEs, evI, evO, evC, getR_0, getR_s, setR, tgR, wipeR, idx_tup, idx_lst, idx_dW0, idx_dW1, bi_len_t, bi_len_l, bi_all, bi_any, bi_min2, bi_max2, bi_tuple_l, bi_tuple_t, bi_list_l, bi_list_t, bi_int, bi_srt_l, bi_srt_t, bi_sset, bi_ssetT, chkB_bl, seq_t, seq_l, b_add, b_sub, ty_non, ty_bl, ty_int, ty_str, ty_tup, ty_lst, ty_dW, List.map_cons, List.map_nil, List.cons_append, List.nil_append, List.replicate_succ, List.replicate_zero, List.length_cons, List.length_nil, List.set_cons_zero, List.set_cons_succ, bnd_ok, bnd_bnd, noex_ok, opt_some, Option.map_some, Option.bind_some, List.getElem?_cons_zero, List.getElem?_cons_succ, ixD_0, ixD_1, ixD_2, cmpD_in, cmpD_inL, cmpD_not, cmpD_notL, cmpD_eq, cmpD_ne, cmpD_lt, cmpD_gt, cmpD_le, cmpD_ge, big0, big1, big2, big3, big4, big5, big6, big7, if_true, if_false, Nat.reduceAdd, Nat.reduceSub, Nat.reduceLT, ↓reduceIte, dec_lt, dec_le, dec_eq, eq_int, lst_of, Bool.false_eq_true, e3, q]
            rfl
          · have e3 : decide ((way : Int) = 3) = false := decide_eq_false (by omega)
            refine ⟨T, _, ?_, G, dL⟩
            simp only [startR, exSs, exS, evE, evEs, evI, evO, evC, getR_0, getR_s, setR, tgR, wipeR, idx_tup, idx_lst, idx_dW0, idx_dW1, bi_len_t, bi_len_l, bi_all, bi_any, bi_min2, bi_max2, bi_tuple_l, bi_tuple_t, bi_list_l, bi_list_t, bi_int, bi_srt_l, bi_srt_t, bi_sset, bi_ssetT, chkB_bl, seq_t, seq_l, b_add, b_sub, ty_non, ty_bl, ty_int, ty_str, ty_tup, ty_lst, ty_dW, List.map_cons, List.map_nil, List.cons_append, List.nil_append, List.replicate_succ, List.replicate_zero, List.length_cons, List.length_nil, List.set_cons_zero, List.set_cons_succ, bnd_ok, bnd_bnd, noex_ok, opt_some, Option.map_some, Option.bind_some, List.getElem?_cons_zero, List.getElem?_cons_succ, ixD_0, ixD_1, ixD_2, cmpD_in, cmpD_inL, cmpD_not, cmpD_notL, cmpD_eq, cmpD_ne, cmpD_lt, cmpD_gt, cmpD_le, cmpD_ge, big0, big1, big2, big3, big4, big5, big6, big7, if_true, if_false, Nat.reduceAdd, Nat.reduceSub, Nat.reduceLT, ↓reduceIte, dec_lt, dec_le, dec_eq, eq_int, lst_of, Bool.false_eq_true, e3]
            rfl
    · have bL : ∀ p ∈ U, p.1 < p.2 ∧ p.2 < n := fun p hp => prs_mem.mp (u1 p hp)
      have lL : U.length < 64 := by omega
      have dL := k2.mono (show _ ≤ m + 200 by omega)
      by_cases hw : 1 < way
      · have c1 : decide (1 < (way : Int)) = true := decide_eq_true (by omega)
        have c2 : decide (4 < (n : Int)) = false := decide_eq_false (by omega)
        simp only [startR, exSs, exS, evE, evEs, evI, evO, evC, getR_0, getR_s, setR, tgR, wipeR, idx_tup, idx_lst, idx_dW0, idx_dW1, bi_len_t, bi_len_l, bi_all, bi_any, bi_min2, bi_max2, bi_tuple_l, bi_tuple_t, bi_list_l, bi_list_t, bi_int, bi_srt_l, bi_srt_t, bi_sset, bi_ssetT, chkB_bl, seq_t, seq_l, b_add, b_sub, ty_non, ty_bl, ty_int, ty_str, ty_tup, ty_lst, ty_dW, List.map_cons, List.map_nil, List.cons_append, List.nil_append, List.replicate_succ, List.replicate_zero, List.length_cons, List.length_nil, List.set_cons_zero, List.set_cons_succ, bnd_ok, bnd_bnd, noex_ok, opt_some, Option.map_some, Option.bind_some, List.getElem?_cons_zero, List.getElem?_cons_succ, ixD_0, ixD_1, ixD_2, cmpD_in, cmpD_inL, cmpD_not, cmpD_notL, cmpD_eq, cmpD_ne, cmpD_lt, cmpD_gt, cmpD_le, cmpD_ge, big0, big1, big2, big3, big4, big5, big6, big7, if_true, if_false, Nat.reduceAdd, Nat.reduceSub, Nat.reduceLT, ↓reduceIte, dec_lt, dec_le, dec_eq, eq_int, lst_of, Bool.false_eq_true, c1, c2]
        obtain ⟨T, t1, t2, t3, t4⟩ := sset_pairs hn bL lL
        have G : GoodW n T := ⟨h0, hn, t2, fun p hp => bL p ((t3 p).mp hp), by omega⟩
        simp only [startR, exSs, exS, evE, evEs, evI, evO, evC, getR_0, getR_s, setR, tgR, wipeR, idx_tup, idx_lst, idx_dW0, idx_dW1, bi_len_t, bi_len_l, bi_all, bi_any, bi_min2, bi_max2, bi_tuple_l, bi_tuple_t, bi_list_l, bi_list_t, bi_int, bi_srt_l, bi_srt_t, bi_sset, bi_ssetT, chkB_bl, seq_t, seq_l, b_add, b_sub, ty_non, ty_bl, ty_int, ty_str, ty_tup, ty_lst, ty_dW, List.map_cons, List.map_nil, List.cons_append, List.nil_append, List.replicate_succ, List.replicate_zero, List.length_cons, List.length_nil, List.set_cons_zero, List.set_cons_succ, bnd_ok, bnd_bnd, noex_ok, opt_some, Option.map_some, Option.bind_some, List.getElem?_cons_zero, List.getElem?_cons_succ, ixD_0, ixD_1, ixD_2, cmpD_in, cmpD_inL, cmpD_not, cmpD_notL, cmpD_eq, cmpD_ne, cmpD_lt, cmpD_gt, cmpD_le, cmpD_ge, big0, big1, big2, big3, big4, big5, big6, big7, if_true, if_false, Nat.reduceAdd, Nat.reduceSub, Nat.reduceLT, ↓reduceIte, dec_lt, dec_le, dec_eq, eq_int, lst_of, Bool.false_eq_true, t1]
        by_cases h3 : way = 3
        · have e3 : decide ((way : Int) = 3) = true := decide_eq_true (by omega)
          refine ⟨cT n T, _, ?_, good_cT G, dL⟩
          have q := fun s => m_lagainst (k := k) (T := T) (s := s) hn
          simp only [dW] at q
          simp only [startR, exSs, exS, evE, evEs, evI, evO, evC, getR_0, getR_s, setR, tgR, wipeR, idx_tup, idx_lst, idx_dW0, idx_dW1, bi_len_t, bi_len_l, bi_all, bi_any, bi_min2, bi_max2, bi_tuple_l, bi_tuple_t, bi_list_l, bi_list_t, bi_int, bi_srt_l, bi_srt_t, bi_sset, bi_ssetT, chkB_bl, seq_t, seq_l, b_add, b_sub, ty_non, ty_bl, ty_int, ty_str, ty_tup, ty_lst, ty_dW, List.map_cons, List.map_nil, List.cons_append, List.nil_append, List.replicate_succ, List.replicate_zero, List.length_cons, List.length_nil, List.set_cons_zero, List.set_cons_succ, bnd_ok, bnd_bnd, noex_ok, opt_some, Option.map_some, Option.bind_some, List.getElem?_cons_zero, List.getElem?_cons_succ, ixD_0, ixD_1, ixD_2, cmpD_in, cmpD_inL, cmpD_not, cmpD_notL, cmpD_eq, cmpD_ne, cmpD_lt, cmpD_gt, cmpD_le, cmpD_ge, big0, big1, big2, big3, big4, big5, big6, big7, if_true, if_false, Nat.reduceAdd, Nat.reduceSub, Nat.reduceLT, ↓reduceIte, dec_lt, dec_le, dec_eq, eq_int, lst_of, Bool.false_eq_true, e3, q]
          rfl
        · have e3 : decide ((way : Int) = 3) = false := decide_eq_false (by omega)
          refine ⟨T, _, ?_, G, dL⟩
          simp only [startR, exSs, exS, evE, evEs, evI, evO, evC, getR_0, getR_s, setR, tgR, wipeR, idx_tup, idx_lst, idx_dW0, idx_dW1, bi_len_t, bi_len_l, bi_all, bi_any, bi_min2, bi_max2, bi_tuple_l, bi_tuple_t, bi_list_l, bi_list_t, bi_int, bi_srt_l, bi_srt_t, bi_sset, bi_ssetT, chkB_bl, seq_t, seq_l, b_add, b_sub, ty_non, ty_bl, ty_int, ty_str, ty_tup, ty_lst, ty_dW, List.map_cons, List.map_nil, List.cons_append, List.nil_append, List.replicate_succ, List.replicate_zero, List.length_cons, List.length_nil, List.set_cons_zero, List.set_cons_succ, bnd_ok, bnd_bnd, noex_ok, opt_some, Option.map_some, Option.bind_some, List.getElem?_cons_zero, List.getElem?_cons_succ, ixD_0, ixD_1, ixD_2, cmpD_in, cmpD_inL, cmpD_not, cmpD_notL, cmpD_eq, cmpD_ne, cmpD_lt, cmpD_gt, cmpD_le, cmpD_ge, big0, big1, big2, big3, big4, big5, big6, big7, if_true, if_false, Nat.reduceAdd, Nat.reduceSub, Nat.reduceLT, ↓reduceIte, dec_lt, dec_le, dec_eq, eq_int, lst_of, Bool.false_eq_true, e3]
          rfl
      · have c1 : decide (1 < (way : Int)) = false := decide_eq_false (by omega)
        simp only [startR, exSs, exS, evE, evEs, evI, evO, evC, getR_0, getR_s, setR, tgR, wipeR, idx_tup, idx_lst, idx_dW0, idx_dW1, bi_len_t, bi_len_l, bi_all, bi_any, bi_min2, bi_max2, bi_tuple_l, bi_tuple_t, bi_list_l, bi_list_t, bi_int, bi_srt_l, bi_srt_t, bi_sset, bi_ssetT, chkB_bl, seq_t, seq_l, b_add, b_sub, ty_non, ty_bl, ty_int, ty_str, ty_tup, ty_lst, ty_dW, List.map_cons, List.map_nil, List.cons_append, List.nil_append, List.replicate_succ, List.replicate_zero, List.length_cons, List.length_nil, List.set_cons_zero, List.set_cons_succ, bnd_ok, bnd_bnd, noex_ok, opt_some, Option.map_some, Option.bind_some, List.getElem?_cons_zero, List.getElem?_cons_succ, ixD_0, ixD_1, ixD_2, cmpD_in, cmpD_inL, cmpD_not, cmpD_notL, cmpD_eq, cmpD_ne, cmpD_lt, cmpD_gt, cmpD_le, cmpD_ge, big0, big1, big2, big3, big4, big5, big6, big7, if_true, if_false, Nat.reduceAdd, Nat.reduceSub, Nat.reduceLT, ↓reduceIte, dec_lt, dec_le, dec_eq, eq_int, lst_of, Bool.false_eq_true, c1]
        obtain ⟨T, t1, t2, t3, t4⟩ := sset_pairs hn bL lL
        have G : GoodW n T := ⟨h0, hn, t2, fun p hp => bL p ((t3 p).mp hp), by omega⟩
        simp only [startR, exSs, exS, evE, evEs, evI, evO, evC, getR_0, getR_s, setR, tgR, wipeR, idx_tup, idx_lst, idx_dW0, idx_dW1, bi_len_t, bi_len_l, bi_all, bi_any, bi_min2, bi_max2, bi_tuple_l, bi_tuple_t, bi_list_l, bi_list_t, bi_int, bi_srt_l, bi_srt_t, bi_sset, bi_ssetT, chkB_bl, seq_t, seq_l, b_add, b_sub, ty_non, ty_bl, ty_int, ty_str, ty_tup, ty_lst, ty_dW, List.map_cons, List.map_nil, List.cons_append, List.nil_append, List.replicate_succ, List.replicate_zero, List.length_cons, List.length_nil, List.set_cons_zero, List.set_cons_succ, bnd_ok, bnd_bnd, noex_ok, opt_some, Option.map_some, Option.bind_some, List.getElem?_cons_zero, List.getElem?_cons_succ, ixD_0, ixD_1, ixD_2, cmpD_in, cmpD_inL, cmpD_not, cmpD_notL, cmpD_eq, cmpD_ne, cmpD_lt, cmpD_gt, cmpD_le, cmpD_ge, big0, big1, big2, big3, big4, big5, big6, big7, if_true, if_false, Nat.reduceAdd, Nat.reduceSub, Nat.reduceLT, ↓reduceIte, dec_lt, dec_le, dec_eq, eq_int, lst_of, Bool.false_eq_true, t1]
        by_cases h3 : way = 3
        · have e3 : decide ((way : Int) = 3) = true := decide_eq_true (by omega)
          refine ⟨cT n T, _, ?_, good_cT G, dL⟩
          have q := fun s => m_lagainst (k := k) (T := T) (s := s) hn
          simp only [dW] at q
          simp only [startR, exSs, exS, evE, evEs, evI, evO, evC, getR_0, getR_s, setR, tgR, wipeR, idx_tup, idx_lst, idx_dW0, idx_dW1, bi_len_t, bi_len_l, bi_all, bi_any, bi_min2, bi_max2, bi_tuple_l, bi_tuple_t, bi_list_l, bi_list_t, bi_int, bi_srt_l, bi_srt_t, bi_sset, bi_ssetT, chkB_bl, seq_t, seq_l, b_add, b_sub, ty_non, ty_bl, ty_int, ty_str, ty_tup, ty_lst, ty_dW, List.map_cons, List.map_nil, List.cons_append, List.nil_append, List.replicate_succ, List.replicate_zero, List.length_cons, List.length_nil, List.set_cons_zero, List.set_cons_succ, bnd_ok, bnd_bnd, noex_ok, opt_some, Option.map_some, Option.bind_some, List.getElem?_cons_zero, List.getElem?_cons_succ, ixD_0, ixD_1, ixD_2, cmpD_in, cmpD_inL, cmpD_not, cmpD_notL, cmpD_eq, cmpD_ne, cmpD_lt, cmpD_gt, cmpD_le, cmpD_ge, big0, big1, big2, big3, big4, big5, big6, big7, if_true, if_false, Nat.reduceAdd, Nat.reduceSub, Nat.reduceLT, ↓reduceIte, dec_lt, dec_le, dec_eq, eq_int, lst_of, Bool.false_eq_true, e3, q]
          rfl
        · have e3 : decide ((way : Int) = 3) = false := decide_eq_false (by omega)
          refine ⟨T, _, ?_, G, dL⟩
          simp only [startR, exSs, exS, evE, evEs, evI, evO, evC, getR_0, getR_s, setR, tgR, wipeR, idx_tup, idx_lst, idx_dW0, idx_dW1, bi_len_t, bi_len_l, bi_all, bi_any, bi_min2, bi_max2, bi_tuple_l, bi_tuple_t, bi_list_l, bi_list_t, bi_int, bi_srt_l, bi_srt_t, bi_sset, bi_ssetT, chkB_bl, seq_t, seq_l, b_add, b_sub, ty_non, ty_bl, ty_int, ty_str, ty_tup, ty_lst, ty_dW, List.map_cons, List.map_nil, List.cons_append, List.nil_append, List.replicate_succ, List.replicate_zero, List.length_cons, List.length_nil, List.set_cons_zero, List.set_cons_succ, bnd_ok, bnd_bnd, noex_ok, opt_some, Option.map_some, Option.bind_some, List.getElem?_cons_zero, List.getElem?_cons_succ, ixD_0, ixD_1, ixD_2, cmpD_in, cmpD_inL, cmpD_not, cmpD_notL, cmpD_eq, cmpD_ne, cmpD_lt, cmpD_gt, cmpD_le, cmpD_ge, big0, big1, big2, big3, big4, big5, big6, big7, if_true, if_false, Nat.reduceAdd, Nat.reduceSub, Nat.reduceLT, ↓reduceIte, dec_lt, dec_le, dec_eq, eq_int, lst_of, Bool.false_eq_true, e3]
          rfl
theorem m_lots {k n : Nat} {s : S} (h0 : 1 ≤ n) (hn : n ≤ 7) : calD ds (k + 1) 29 [.int (n : Int)] s = .ok (.lst ((lotsF (List.range n)).map dR)) s := by
  rw [cal_at (d := d__law_lots) rfl rfl]
  simp only [startR, exSs, exS, evE, evEs, evI, evO, evC, getR_0, getR_s, setR, tgR, wipeR, idx_tup, idx_lst, idx_dW0, idx_dW1, bi_len_t, bi_len_l, bi_all, bi_any, bi_min2, bi_max2, bi_tuple_l, bi_tuple_t, bi_list_l, bi_list_t, bi_int, bi_srt_l, bi_srt_t, bi_sset, bi_ssetT, chkB_bl, seq_t, seq_l, b_add, b_sub, ty_non, ty_bl, ty_int, ty_str, ty_tup, ty_lst, ty_dW, List.map_cons, List.map_nil, List.cons_append, List.nil_append, List.replicate_succ, List.replicate_zero, List.length_cons, List.length_nil, List.set_cons_zero, List.set_cons_succ, bnd_ok, bnd_bnd, noex_ok, opt_some, Option.map_some, Option.bind_some, List.getElem?_cons_zero, List.getElem?_cons_succ, ixD_0, ixD_1, ixD_2, cmpD_in, cmpD_inL, cmpD_not, cmpD_notL, cmpD_eq, cmpD_ne, cmpD_lt, cmpD_gt, cmpD_le, cmpD_ge, big0, big1, big2, big3, big4, big5, big6, big7, if_true, if_false, Nat.reduceAdd, Nat.reduceSub, Nat.reduceLT, ↓reduceIte, dec_lt, dec_le, dec_eq, eq_int, lst_of, Bool.false_eq_true, d__law_lots, b__law_lots, range3 h0 hn]
  refine for_run (g := fun k => dN (n - 1 - k)) (P := fun done r => ∃ x, r = [Sl.v (.int (n : Int)), .v (.lst ((lotsF (List.range' (n - done.length) done.length)).map dR)), x, .no]) ⟨_, rfl⟩ (fun a done rest r e h => ?_) (fun r h => ?_)
  · obtain ⟨x, rfl⟩ := h
    have ha : a = done.length := range_mid e
    have hd : done.length + 1 ≤ n := by
      have q := congrArg List.length e
      simp at q; omega
    have hL : (lotsF (List.range' (n - done.length) done.length)).length ≤ 128 := by
      have q := lots_len (List.range' (n - done.length) done.length)
      rw [List.length_range'] at q
      have : 2 ^ done.length ≤ 2 ^ 7 := Nat.pow_le_pow_right (by omega) (by omega)
      omega
    have hr : ∀ r ∈ lotsF (List.range' (n - done.length) done.length), r.length ≤ 100 := fun r hr => by
      have := (lots_mem.mp hr).1.length_le
      rw [List.length_range'] at this; omega
    refine ⟨[Sl.v (.int (n : Int)), .v (.lst ((lotsF (List.range' (n - (done ++ [a]).length) (done ++ [a]).length)).map dR)), .v (dN (n - 1 - a)), .no], ?_, _, rfl⟩
    have es : List.range' (n - (done ++ [a]).length) (done ++ [a]).length = (n - 1 - a) :: List.range' (n - done.length) done.length := by
      rw [List.length_append, List.length_singleton, List.range'_succ, ha]
      have e1 : n - (done.length + 1) = n - 1 - done.length := by omega
      have e2 : n - (done.length + 1) + 1 = n - done.length := by omega
      rw [e2, e1]
    rw [es]
    have el : lotsF ((n - 1 - a) :: List.range' (n - done.length) done.length) = [n - 1 - a] :: ((lotsF (List.range' (n - done.length) done.length)).map (fun r => (n - 1 - a) :: r) ++ lotsF (List.range' (n - done.length) done.length)) := rfl
    rw [el]
    generalize lotsF (List.range' (n - done.length) done.length) = Z at hL hr
    have hZ : Z.length ≤ big := by unfold big; omega
    simp only [startR, exSs, exS, evE, evEs, evI, evO, evC, getR_0, getR_s, setR, tgR, wipeR, idx_tup, idx_lst, idx_dW0, idx_dW1, bi_len_t, bi_len_l, bi_all, bi_any, bi_min2, bi_max2, bi_tuple_l, bi_tuple_t, bi_list_l, bi_list_t, bi_int, bi_srt_l, bi_srt_t, bi_sset, bi_ssetT, chkB_bl, seq_t, seq_l, b_add, b_sub, ty_non, ty_bl, ty_int, ty_str, ty_tup, ty_lst, ty_dW, List.map_cons, List.map_nil, List.cons_append, List.nil_append, List.replicate_succ, List.replicate_zero, List.length_cons, List.length_nil, List.set_cons_zero, List.set_cons_succ, bnd_ok, bnd_bnd, noex_ok, opt_some, Option.map_some, Option.bind_some, List.getElem?_cons_zero, List.getElem?_cons_succ, ixD_0, ixD_1, ixD_2, cmpD_in, cmpD_inL, cmpD_not, cmpD_notL, cmpD_eq, cmpD_ne, cmpD_lt, cmpD_gt, cmpD_le, cmpD_ge, big0, big1, big2, big3, big4, big5, big6, big7, if_true, if_false, Nat.reduceAdd, Nat.reduceSub, Nat.reduceLT, ↓reduceIte, dec_lt, dec_le, dec_eq, eq_int, lst_of, Bool.false_eq_true, List.length_map, hZ]
    refine lc_runA (g := dR) (h := fun r => dR ((n - 1 - a) :: r)) (fun r hr' => ?_) ?_
    · simp only [startR, exSs, exS, evE, evEs, evI, evO, evC, getR_0, getR_s, setR, tgR, wipeR, idx_tup, idx_lst, idx_dW0, idx_dW1, bi_len_t, bi_len_l, bi_all, bi_any, bi_min2, bi_max2, bi_tuple_l, bi_tuple_t, bi_list_l, bi_list_t, bi_int, bi_srt_l, bi_srt_t, bi_sset, bi_ssetT, chkB_bl, seq_t, seq_l, b_add, b_sub, ty_non, ty_bl, ty_int, ty_str, ty_tup, ty_lst, ty_dW, List.map_cons, List.map_nil, List.cons_append, List.nil_append, List.replicate_succ, List.replicate_zero, List.length_cons, List.length_nil, List.set_cons_zero, List.set_cons_succ, bnd_ok, bnd_bnd, noex_ok, opt_some, Option.map_some, Option.bind_some, List.getElem?_cons_zero, List.getElem?_cons_succ, ixD_0, ixD_1, ixD_2, cmpD_in, cmpD_inL, cmpD_not, cmpD_notL, cmpD_eq, cmpD_ne, cmpD_lt, cmpD_gt, cmpD_le, cmpD_ge, big0, big1, big2, big3, big4, big5, big6, big7, if_true, if_false, Nat.reduceAdd, Nat.reduceSub, Nat.reduceLT, ↓reduceIte, dec_lt, dec_le, dec_eq, eq_int, lst_of, Bool.false_eq_true, b_addR (hr r hr')]
    · rw [b_addL (by simp only [List.length_map, List.length_cons, List.length_nil]; unfold big; omega)]
      simp only [startR, exSs, exS, evE, evEs, evI, evO, evC, getR_0, getR_s, setR, tgR, wipeR, idx_tup, idx_lst, idx_dW0, idx_dW1, bi_len_t, bi_len_l, bi_all, bi_any, bi_min2, bi_max2, bi_tuple_l, bi_tuple_t, bi_list_l, bi_list_t, bi_int, bi_srt_l, bi_srt_t, bi_sset, bi_ssetT, chkB_bl, seq_t, seq_l, b_add, b_sub, ty_non, ty_bl, ty_int, ty_str, ty_tup, ty_lst, ty_dW, List.map_cons, List.map_nil, List.cons_append, List.nil_append, List.replicate_succ, List.replicate_zero, List.length_cons, List.length_nil, List.set_cons_zero, List.set_cons_succ, bnd_ok, bnd_bnd, noex_ok, opt_some, Option.map_some, Option.bind_some, List.getElem?_cons_zero, List.getElem?_cons_succ, ixD_0, ixD_1, ixD_2, cmpD_in, cmpD_inL, cmpD_not, cmpD_notL, cmpD_eq, cmpD_ne, cmpD_lt, cmpD_gt, cmpD_le, cmpD_ge, big0, big1, big2, big3, big4, big5, big6, big7, if_true, if_false, Nat.reduceAdd, Nat.reduceSub, Nat.reduceLT, ↓reduceIte, dec_lt, dec_le, dec_eq, eq_int, lst_of, Bool.false_eq_true]
      rw [b_addL (by simp only [List.length_map, List.length_cons, List.length_append, List.length_nil]; unfold big; omega)]
      simp only [startR, exSs, exS, evE, evEs, evI, evO, evC, getR_0, getR_s, setR, tgR, wipeR, idx_tup, idx_lst, idx_dW0, idx_dW1, bi_len_t, bi_len_l, bi_all, bi_any, bi_min2, bi_max2, bi_tuple_l, bi_tuple_t, bi_list_l, bi_list_t, bi_int, bi_srt_l, bi_srt_t, bi_sset, bi_ssetT, chkB_bl, seq_t, seq_l, b_add, b_sub, ty_non, ty_bl, ty_int, ty_str, ty_tup, ty_lst, ty_dW, List.map_cons, List.map_nil, List.cons_append, List.nil_append, List.replicate_succ, List.replicate_zero, List.length_cons, List.length_nil, List.set_cons_zero, List.set_cons_succ, bnd_ok, bnd_bnd, noex_ok, opt_some, Option.map_some, Option.bind_some, List.getElem?_cons_zero, List.getElem?_cons_succ, ixD_0, ixD_1, ixD_2, cmpD_in, cmpD_inL, cmpD_not, cmpD_notL, cmpD_eq, cmpD_ne, cmpD_lt, cmpD_gt, cmpD_le, cmpD_ge, big0, big1, big2, big3, big4, big5, big6, big7, if_true, if_false, Nat.reduceAdd, Nat.reduceSub, Nat.reduceLT, ↓reduceIte, dec_lt, dec_le, dec_eq, eq_int, lst_of, Bool.false_eq_true, List.map_append, List.map_map]
      rfl
  · obtain ⟨x, rfl⟩ := h
    simp only [startR, exSs, exS, evE, evEs, evI, evO, evC, getR_0, getR_s, setR, tgR, wipeR, idx_tup, idx_lst, idx_dW0, idx_dW1, bi_len_t, bi_len_l, bi_all, bi_any, bi_min2, bi_max2, bi_tuple_l, bi_tuple_t, bi_list_l, bi_list_t, bi_int, bi_srt_l, bi_srt_t, bi_sset, bi_ssetT, chkB_bl, seq_t, seq_l, b_add, b_sub, ty_non, ty_bl, ty_int, ty_str, ty_tup, ty_lst, ty_dW, List.map_cons, List.map_nil, List.cons_append, List.nil_append, List.replicate_succ, List.replicate_zero, List.length_cons, List.length_nil, List.set_cons_zero, List.set_cons_succ, bnd_ok, bnd_bnd, noex_ok, opt_some, Option.map_some, Option.bind_some, List.getElem?_cons_zero, List.getElem?_cons_succ, ixD_0, ixD_1, ixD_2, cmpD_in, cmpD_inL, cmpD_not, cmpD_notL, cmpD_eq, cmpD_ne, cmpD_lt, cmpD_gt, cmpD_le, cmpD_ge, big0, big1, big2, big3, big4, big5, big6, big7, if_true, if_false, Nat.reduceAdd, Nat.reduceSub, Nat.reduceLT, ↓reduceIte, dec_lt, dec_le, dec_eq, eq_int, lst_of, Bool.false_eq_true]
    rw [List.length_range, Nat.sub_self, ← List.range_eq_range']
theorem m_within {k n : Nat} {T : List (Nat × Nat)} {row : List Nat} {s : S} (hT : T.length ≤ 100) : calD ds (k + 1) 30 [dW n T, dR row] s = .ok (.lst ((T.filter (inB row)).map dP)) s := by
  have hT' : T.length ≤ big := by unfold big; omega
  rw [cal_at (d := d__law_within) rfl rfl]
  simp only [startR, exSs, exS, evE, evEs, evI, evO, evC, getR_0, getR_s, setR, tgR, wipeR, idx_tup, idx_lst, idx_dW0, idx_dW1, bi_len_t, bi_len_l, bi_all, bi_any, bi_min2, bi_max2, bi_tuple_l, bi_tuple_t, bi_list_l, bi_list_t, bi_int, bi_srt_l, bi_srt_t, bi_sset, bi_ssetT, chkB_bl, seq_t, seq_l, b_add, b_sub, ty_non, ty_bl, ty_int, ty_str, ty_tup, ty_lst, ty_dW, List.map_cons, List.map_nil, List.cons_append, List.nil_append, List.replicate_succ, List.replicate_zero, List.length_cons, List.length_nil, List.set_cons_zero, List.set_cons_succ, bnd_ok, bnd_bnd, noex_ok, opt_some, Option.map_some, Option.bind_some, List.getElem?_cons_zero, List.getElem?_cons_succ, ixD_0, ixD_1, ixD_2, cmpD_in, cmpD_inL, cmpD_not, cmpD_notL, cmpD_eq, cmpD_ne, cmpD_lt, cmpD_gt, cmpD_le, cmpD_ge, big0, big1, big2, big3, big4, big5, big6, big7, if_true, if_false, Nat.reduceAdd, Nat.reduceSub, Nat.reduceLT, ↓reduceIte, dec_lt, dec_le, dec_eq, eq_int, lst_of, Bool.false_eq_true, d__law_within, b__law_within, dR, List.length_map, hT']
  refine lc_run (g := dP) (p := inB row) (h := dP) (fun p _ => ?_) ?_
  · simp only [startR, exSs, exS, evE, evEs, evI, evO, evC, getR_0, getR_s, setR, tgR, wipeR, idx_tup, idx_lst, idx_dW0, idx_dW1, bi_len_t, bi_len_l, bi_all, bi_any, bi_min2, bi_max2, bi_tuple_l, bi_tuple_t, bi_list_l, bi_list_t, bi_int, bi_srt_l, bi_srt_t, bi_sset, bi_ssetT, chkB_bl, seq_t, seq_l, b_add, b_sub, ty_non, ty_bl, ty_int, ty_str, ty_tup, ty_lst, ty_dW, List.map_cons, List.map_nil, List.cons_append, List.nil_append, List.replicate_succ, List.replicate_zero, List.length_cons, List.length_nil, List.set_cons_zero, List.set_cons_succ, bnd_ok, bnd_bnd, noex_ok, opt_some, Option.map_some, Option.bind_some, List.getElem?_cons_zero, List.getElem?_cons_succ, ixD_0, ixD_1, ixD_2, cmpD_in, cmpD_inL, cmpD_not, cmpD_notL, cmpD_eq, cmpD_ne, cmpD_lt, cmpD_gt, cmpD_le, cmpD_ge, big0, big1, big2, big3, big4, big5, big6, big7, if_true, if_false, Nat.reduceAdd, Nat.reduceSub, Nat.reduceLT, ↓reduceIte, dec_lt, dec_le, dec_eq, eq_int, lst_of, Bool.false_eq_true, dP_tup, in_dN]
    unfold inB
    by_cases z : p.1 ∈ row
    · simp only [z, decide_true, Bool.true_and, startR, exSs, exS, evE, evEs, evI, evO, evC, getR_0, getR_s, setR, tgR, wipeR, idx_tup, idx_lst, idx_dW0, idx_dW1, bi_len_t, bi_len_l, bi_all, bi_any, bi_min2, bi_max2, bi_tuple_l, bi_tuple_t, bi_list_l, bi_list_t, bi_int, bi_srt_l, bi_srt_t, bi_sset, bi_ssetT, chkB_bl, seq_t, seq_l, b_add, b_sub, ty_non, ty_bl, ty_int, ty_str, ty_tup, ty_lst, ty_dW, List.map_cons, List.map_nil, List.cons_append, List.nil_append, List.replicate_succ, List.replicate_zero, List.length_cons, List.length_nil, List.set_cons_zero, List.set_cons_succ, bnd_ok, bnd_bnd, noex_ok, opt_some, Option.map_some, Option.bind_some, List.getElem?_cons_zero, List.getElem?_cons_succ, ixD_0, ixD_1, ixD_2, cmpD_in, cmpD_inL, cmpD_not, cmpD_notL, cmpD_eq, cmpD_ne, cmpD_lt, cmpD_gt, cmpD_le, cmpD_ge, big0, big1, big2, big3, big4, big5, big6, big7, if_true, if_false, Nat.reduceAdd, Nat.reduceSub, Nat.reduceLT, ↓reduceIte, dec_lt, dec_le, dec_eq, eq_int, lst_of, Bool.false_eq_true]
      cases decide (p.2 ∈ row) <;> rfl
    · simp only [z, decide_false, Bool.false_and, startR, exSs, exS, evE, evEs, evI, evO, evC, getR_0, getR_s, setR, tgR, wipeR, idx_tup, idx_lst, idx_dW0, idx_dW1, bi_len_t, bi_len_l, bi_all, bi_any, bi_min2, bi_max2, bi_tuple_l, bi_tuple_t, bi_list_l, bi_list_t, bi_int, bi_srt_l, bi_srt_t, bi_sset, bi_ssetT, chkB_bl, seq_t, seq_l, b_add, b_sub, ty_non, ty_bl, ty_int, ty_str, ty_tup, ty_lst, ty_dW, List.map_cons, List.map_nil, List.cons_append, List.nil_append, List.replicate_succ, List.replicate_zero, List.length_cons, List.length_nil, List.set_cons_zero, List.set_cons_succ, bnd_ok, bnd_bnd, noex_ok, opt_some, Option.map_some, Option.bind_some, List.getElem?_cons_zero, List.getElem?_cons_succ, ixD_0, ixD_1, ixD_2, cmpD_in, cmpD_inL, cmpD_not, cmpD_notL, cmpD_eq, cmpD_ne, cmpD_lt, cmpD_gt, cmpD_le, cmpD_ge, big0, big1, big2, big3, big4, big5, big6, big7, if_true, if_false, Nat.reduceAdd, Nat.reduceSub, Nat.reduceLT, ↓reduceIte, dec_lt, dec_le, dec_eq, eq_int, lst_of, Bool.false_eq_true]
  · rfl
theorem m_degrees {k : Nat} {U : List (Nat × Nat)} {row : List Nat} {s : S} (hU : U.length ≤ 100) (hr : row.length ≤ 100) : calD ds (k + 1) 31 [.lst (U.map dP), dR row] s = .ok (.lst ((row.map fun x => (U.filter (atB x)).length).map dN)) s := by
  have hU' : U.length ≤ big := by unfold big; omega
  have hr' : row.length ≤ big := by unfold big; omega
  rw [cal_at (d := d__law_degrees) rfl rfl]
  simp only [startR, exSs, exS, evE, evEs, evI, evO, evC, getR_0, getR_s, setR, tgR, wipeR, idx_tup, idx_lst, idx_dW0, idx_dW1, bi_len_t, bi_len_l, bi_all, bi_any, bi_min2, bi_max2, bi_tuple_l, bi_tuple_t, bi_list_l, bi_list_t, bi_int, bi_srt_l, bi_srt_t, bi_sset, bi_ssetT, chkB_bl, seq_t, seq_l, b_add, b_sub, ty_non, ty_bl, ty_int, ty_str, ty_tup, ty_lst, ty_dW, List.map_cons, List.map_nil, List.cons_append, List.nil_append, List.replicate_succ, List.replicate_zero, List.length_cons, List.length_nil, List.set_cons_zero, List.set_cons_succ, bnd_ok, bnd_bnd, noex_ok, opt_some, Option.map_some, Option.bind_some, List.getElem?_cons_zero, List.getElem?_cons_succ, ixD_0, ixD_1, ixD_2, cmpD_in, cmpD_inL, cmpD_not, cmpD_notL, cmpD_eq, cmpD_ne, cmpD_lt, cmpD_gt, cmpD_le, cmpD_ge, big0, big1, big2, big3, big4, big5, big6, big7, if_true, if_false, Nat.reduceAdd, Nat.reduceSub, Nat.reduceLT, ↓reduceIte, dec_lt, dec_le, dec_eq, eq_int, lst_of, Bool.false_eq_true, d__law_degrees, b__law_degrees, dR, List.length_map, hU', hr']
  refine lc_runA (g := dN) (h := fun x => dN (U.filter (atB x)).length) (fun x _ => ?_) ?_
  · rw [lc_map (g := dP) (p := atB x) (h := dP) (fun p _ => by
      simp only [startR, exSs, exS, evE, evEs, evI, evO, evC, getR_0, getR_s, setR, tgR, wipeR, idx_tup, idx_lst, idx_dW0, idx_dW1, bi_len_t, bi_len_l, bi_all, bi_any, bi_min2, bi_max2, bi_tuple_l, bi_tuple_t, bi_list_l, bi_list_t, bi_int, bi_srt_l, bi_srt_t, bi_sset, bi_ssetT, chkB_bl, seq_t, seq_l, b_add, b_sub, ty_non, ty_bl, ty_int, ty_str, ty_tup, ty_lst, ty_dW, List.map_cons, List.map_nil, List.cons_append, List.nil_append, List.replicate_succ, List.replicate_zero, List.length_cons, List.length_nil, List.set_cons_zero, List.set_cons_succ, bnd_ok, bnd_bnd, noex_ok, opt_some, Option.map_some, Option.bind_some, List.getElem?_cons_zero, List.getElem?_cons_succ, ixD_0, ixD_1, ixD_2, cmpD_in, cmpD_inL, cmpD_not, cmpD_notL, cmpD_eq, cmpD_ne, cmpD_lt, cmpD_gt, cmpD_le, cmpD_ge, big0, big1, big2, big3, big4, big5, big6, big7, if_true, if_false, Nat.reduceAdd, Nat.reduceSub, Nat.reduceLT, ↓reduceIte, dec_lt, dec_le, dec_eq, eq_int, lst_of, Bool.false_eq_true, dP_tup, in_two]
      cases atB x p <;> rfl)]
    simp only [startR, exSs, exS, evE, evEs, evI, evO, evC, getR_0, getR_s, setR, tgR, wipeR, idx_tup, idx_lst, idx_dW0, idx_dW1, bi_len_t, bi_len_l, bi_all, bi_any, bi_min2, bi_max2, bi_tuple_l, bi_tuple_t, bi_list_l, bi_list_t, bi_int, bi_srt_l, bi_srt_t, bi_sset, bi_ssetT, chkB_bl, seq_t, seq_l, b_add, b_sub, ty_non, ty_bl, ty_int, ty_str, ty_tup, ty_lst, ty_dW, List.map_cons, List.map_nil, List.cons_append, List.nil_append, List.replicate_succ, List.replicate_zero, List.length_cons, List.length_nil, List.set_cons_zero, List.set_cons_succ, bnd_ok, bnd_bnd, noex_ok, opt_some, Option.map_some, Option.bind_some, List.getElem?_cons_zero, List.getElem?_cons_succ, ixD_0, ixD_1, ixD_2, cmpD_in, cmpD_inL, cmpD_not, cmpD_notL, cmpD_eq, cmpD_ne, cmpD_lt, cmpD_gt, cmpD_le, cmpD_ge, big0, big1, big2, big3, big4, big5, big6, big7, if_true, if_false, Nat.reduceAdd, Nat.reduceSub, Nat.reduceLT, ↓reduceIte, dec_lt, dec_le, dec_eq, eq_int, lst_of, Bool.false_eq_true, List.length_map]
  · rw [List.map_map]; rfl
theorem m_sort {k : Nat} {d : D} {s : S} (h : sd d = true) : calD ds (k + 1) 23 [d] s = .ok (.int (srtC d)) s := by
  rw [cal_at (d := d__law_sort) rfl rfl]
  cases d <;> first | (cases h; done) | rfl
theorem m_same {s : S} : ∀ (m : Nat) (d : D), dep d ≤ m → sd d = true → ∀ k, calD ds (k + 2 + m) 24 [d, d] s = .ok (.bl true) s := by
  intro m
  induction m with
  | zero =>
    intro d hd h k
    have n1 : ∀ xs, d ≠ .tup xs := fun xs e => by rw [e] at hd; exact absurd hd (by show ¬ depL xs + 1 ≤ 0; omega)
    have n2 : ∀ xs, d ≠ .lst xs := fun xs e => by rw [e] at hd; exact absurd hd (by show ¬ depL xs + 1 ≤ 0; omega)
    have e1 := m_sort (k := k) (s := s) h
    show calD ds (k + 1 + 1) 24 [d, d] s = _
    rw [cal_at (d := d__law_same) rfl rfl]
    have hc : (decide (3 < srtC d) && decide (srtC d < 6)) = false := by
      cases d <;> first | rfl | exact (n1 _ rfl).elim | exact (n2 _ rfl).elim
    simp only [startR, exSs, exS, evE, evEs, evI, evO, evC, getR_0, getR_s, setR, tgR, wipeR, idx_tup, idx_lst, idx_dW0, idx_dW1, bi_len_t, bi_len_l, bi_all, bi_any, bi_min2, bi_max2, bi_tuple_l, bi_tuple_t, bi_list_l, bi_list_t, bi_int, bi_srt_l, bi_srt_t, bi_sset, bi_ssetT, chkB_bl, seq_t, seq_l, b_add, b_sub, ty_non, ty_bl, ty_int, ty_str, ty_tup, ty_lst, ty_dW, List.map_cons, List.map_nil, List.cons_append, List.nil_append, List.replicate_succ, List.replicate_zero, List.length_cons, List.length_nil, List.set_cons_zero, List.set_cons_succ, bnd_ok, bnd_bnd, noex_ok, opt_some, Option.map_some, Option.bind_some, List.getElem?_cons_zero, List.getElem?_cons_succ, ixD_0, ixD_1, ixD_2, cmpD_in, cmpD_inL, cmpD_not, cmpD_notL, cmpD_eq, cmpD_ne, cmpD_lt, cmpD_gt, cmpD_le, cmpD_ge, big0, big1, big2, big3, big4, big5, big6, big7, if_true, if_false, Nat.reduceAdd, Nat.reduceSub, Nat.reduceLT, ↓reduceIte, dec_lt, dec_le, dec_eq, eq_int, lst_of, Bool.false_eq_true, d__law_same, b__law_same, e1, decide_true, Bool.not_true]
    by_cases c : 3 < srtC d
    · have c' : decide (srtC d < 6) = false := by rw [decide_eq_true c] at hc; simpa using hc
      simp only [startR, exSs, exS, evE, evEs, evI, evO, evC, getR_0, getR_s, setR, tgR, wipeR, idx_tup, idx_lst, idx_dW0, idx_dW1, bi_len_t, bi_len_l, bi_all, bi_any, bi_min2, bi_max2, bi_tuple_l, bi_tuple_t, bi_list_l, bi_list_t, bi_int, bi_srt_l, bi_srt_t, bi_sset, bi_ssetT, chkB_bl, seq_t, seq_l, b_add, b_sub, ty_non, ty_bl, ty_int, ty_str, ty_tup, ty_lst, ty_dW, List.map_cons, List.map_nil, List.cons_append, List.nil_append, List.replicate_succ, List.replicate_zero, List.length_cons, List.length_nil, List.set_cons_zero, List.set_cons_succ, bnd_ok, bnd_bnd, noex_ok, opt_some, Option.map_some, Option.bind_some, List.getElem?_cons_zero, List.getElem?_cons_succ, ixD_0, ixD_1, ixD_2, cmpD_in, cmpD_inL, cmpD_not, cmpD_notL, cmpD_eq, cmpD_ne, cmpD_lt, cmpD_gt, cmpD_le, cmpD_ge, big0, big1, big2, big3, big4, big5, big6, big7, if_true, if_false, Nat.reduceAdd, Nat.reduceSub, Nat.reduceLT, ↓reduceIte, dec_lt, dec_le, dec_eq, eq_int, lst_of, Bool.false_eq_true, c, decide_true, c', eq_self h n1 n2, e1]
    · simp only [startR, exSs, exS, evE, evEs, evI, evO, evC, getR_0, getR_s, setR, tgR, wipeR, idx_tup, idx_lst, idx_dW0, idx_dW1, bi_len_t, bi_len_l, bi_all, bi_any, bi_min2, bi_max2, bi_tuple_l, bi_tuple_t, bi_list_l, bi_list_t, bi_int, bi_srt_l, bi_srt_t, bi_sset, bi_ssetT, chkB_bl, seq_t, seq_l, b_add, b_sub, ty_non, ty_bl, ty_int, ty_str, ty_tup, ty_lst, ty_dW, List.map_cons, List.map_nil, List.cons_append, List.nil_append, List.replicate_succ, List.replicate_zero, List.length_cons, List.length_nil, List.set_cons_zero, List.set_cons_succ, bnd_ok, bnd_bnd, noex_ok, opt_some, Option.map_some, Option.bind_some, List.getElem?_cons_zero, List.getElem?_cons_succ, ixD_0, ixD_1, ixD_2, cmpD_in, cmpD_inL, cmpD_not, cmpD_notL, cmpD_eq, cmpD_ne, cmpD_lt, cmpD_gt, cmpD_le, cmpD_ge, big0, big1, big2, big3, big4, big5, big6, big7, if_true, if_false, Nat.reduceAdd, Nat.reduceSub, Nat.reduceLT, ↓reduceIte, dec_lt, dec_le, dec_eq, eq_int, lst_of, Bool.false_eq_true, c, decide_false, eq_self h n1 n2]
  | succ m ih =>
    intro d hd h k
    have e1 := m_sort (k := k + 1 + m) (s := s) h
    show calD ds (k + 2 + m + 1) 24 [d, d] s = _
    have e1 : calD ds (k + 2 + m) 23 [d] s = .ok (.int (srtC d)) s := by
      rw [show k + 2 + m = k + 1 + m + 1 by omega]; exact e1
    rw [cal_at (d := d__law_same) rfl rfl]
    have scal : (∀ xs, d ≠ .tup xs) → (∀ xs, d ≠ .lst xs) → (bnd (exSs (calF ds (k + 2 + m)) d__law_same.body (k + 2 + m) (startR d__law_same [d, d]) s) fun fl s1 =>
      match fl with
      | .rt x => .ok x s1
      | .nx _ => .ok .non s1) = .ok (.bl true) s := fun n1 n2 => by
      have hc : (decide (3 < srtC d) && decide (srtC d < 6)) = false := by
        cases d <;> first | rfl | exact (n1 _ rfl).elim | exact (n2 _ rfl).elim
      simp only [startR, exSs, exS, evE, evEs, evI, evO, evC, getR_0, getR_s, setR, tgR, wipeR, idx_tup, idx_lst, idx_dW0, idx_dW1, bi_len_t, bi_len_l, bi_all, bi_any, bi_min2, bi_max2, bi_tuple_l, bi_tuple_t, bi_list_l, bi_list_t, bi_int, bi_srt_l, bi_srt_t, bi_sset, bi_ssetT, chkB_bl, seq_t, seq_l, b_add, b_sub, ty_non, ty_bl, ty_int, ty_str, ty_tup, ty_lst, ty_dW, List.map_cons, List.map_nil, List.cons_append, List.nil_append, List.replicate_succ, List.replicate_zero, List.length_cons, List.length_nil, List.set_cons_zero, List.set_cons_succ, bnd_ok, bnd_bnd, noex_ok, opt_some, Option.map_some, Option.bind_some, List.getElem?_cons_zero, List.getElem?_cons_succ, ixD_0, ixD_1, ixD_2, cmpD_in, cmpD_inL, cmpD_not, cmpD_notL, cmpD_eq, cmpD_ne, cmpD_lt, cmpD_gt, cmpD_le, cmpD_ge, big0, big1, big2, big3, big4, big5, big6, big7, if_true, if_false, Nat.reduceAdd, Nat.reduceSub, Nat.reduceLT, ↓reduceIte, dec_lt, dec_le, dec_eq, eq_int, lst_of, Bool.false_eq_true, d__law_same, b__law_same, e1, decide_true, Bool.not_true]
      by_cases c : 3 < srtC d
      · have c' : decide (srtC d < 6) = false := by rw [decide_eq_true c] at hc; simpa using hc
        simp only [startR, exSs, exS, evE, evEs, evI, evO, evC, getR_0, getR_s, setR, tgR, wipeR, idx_tup, idx_lst, idx_dW0, idx_dW1, bi_len_t, bi_len_l, bi_all, bi_any, bi_min2, bi_max2, bi_tuple_l, bi_tuple_t, bi_list_l, bi_list_t, bi_int, bi_srt_l, bi_srt_t, bi_sset, bi_ssetT, chkB_bl, seq_t, seq_l, b_add, b_sub, ty_non, ty_bl, ty_int, ty_str, ty_tup, ty_lst, ty_dW, List.map_cons, List.map_nil, List.cons_append, List.nil_append, List.replicate_succ, List.replicate_zero, List.length_cons, List.length_nil, List.set_cons_zero, List.set_cons_succ, bnd_ok, bnd_bnd, noex_ok, opt_some, Option.map_some, Option.bind_some, List.getElem?_cons_zero, List.getElem?_cons_succ, ixD_0, ixD_1, ixD_2, cmpD_in, cmpD_inL, cmpD_not, cmpD_notL, cmpD_eq, cmpD_ne, cmpD_lt, cmpD_gt, cmpD_le, cmpD_ge, big0, big1, big2, big3, big4, big5, big6, big7, if_true, if_false, Nat.reduceAdd, Nat.reduceSub, Nat.reduceLT, ↓reduceIte, dec_lt, dec_le, dec_eq, eq_int, lst_of, Bool.false_eq_true, c, decide_true, c', eq_self h n1 n2, e1]
      · simp only [startR, exSs, exS, evE, evEs, evI, evO, evC, getR_0, getR_s, setR, tgR, wipeR, idx_tup, idx_lst, idx_dW0, idx_dW1, bi_len_t, bi_len_l, bi_all, bi_any, bi_min2, bi_max2, bi_tuple_l, bi_tuple_t, bi_list_l, bi_list_t, bi_int, bi_srt_l, bi_srt_t, bi_sset, bi_ssetT, chkB_bl, seq_t, seq_l, b_add, b_sub, ty_non, ty_bl, ty_int, ty_str, ty_tup, ty_lst, ty_dW, List.map_cons, List.map_nil, List.cons_append, List.nil_append, List.replicate_succ, List.replicate_zero, List.length_cons, List.length_nil, List.set_cons_zero, List.set_cons_succ, bnd_ok, bnd_bnd, noex_ok, opt_some, Option.map_some, Option.bind_some, List.getElem?_cons_zero, List.getElem?_cons_succ, ixD_0, ixD_1, ixD_2, cmpD_in, cmpD_inL, cmpD_not, cmpD_notL, cmpD_eq, cmpD_ne, cmpD_lt, cmpD_gt, cmpD_le, cmpD_ge, big0, big1, big2, big3, big4, big5, big6, big7, if_true, if_false, Nat.reduceAdd, Nat.reduceSub, Nat.reduceLT, ↓reduceIte, dec_lt, dec_le, dec_eq, eq_int, lst_of, Bool.false_eq_true, c, decide_false, eq_self h n1 n2]
    cases d with
    | tup xs =>
      have hx : sdL xs = true ∧ xs.length ≤ 1000 := by
        have z : (sdL xs && decide (xs.length ≤ 1000)) = true := h
        exact ⟨(oa z).1, of_decide_eq_true (oa z).2⟩
      have hdp : depL xs ≤ m := by
        have z : depL xs + 1 ≤ m + 1 := hd
        omega
      have hl : (enmD 0 xs).length ≤ big := by rw [enm_len]; unfold big; omega
      simp only [startR, exSs, exS, evE, evEs, evI, evO, evC, getR_0, getR_s, setR, tgR, wipeR, idx_tup, idx_lst, idx_dW0, idx_dW1, bi_len_t, bi_len_l, bi_all, bi_any, bi_min2, bi_max2, bi_tuple_l, bi_tuple_t, bi_list_l, bi_list_t, bi_int, bi_srt_l, bi_srt_t, bi_sset, bi_ssetT, chkB_bl, seq_t, seq_l, b_add, b_sub, ty_non, ty_bl, ty_int, ty_str, ty_tup, ty_lst, ty_dW, List.map_cons, List.map_nil, List.cons_append, List.nil_append, List.replicate_succ, List.replicate_zero, List.length_cons, List.length_nil, List.set_cons_zero, List.set_cons_succ, bnd_ok, bnd_bnd, noex_ok, opt_some, Option.map_some, Option.bind_some, List.getElem?_cons_zero, List.getElem?_cons_succ, ixD_0, ixD_1, ixD_2, cmpD_in, cmpD_inL, cmpD_not, cmpD_notL, cmpD_eq, cmpD_ne, cmpD_lt, cmpD_gt, cmpD_le, cmpD_ge, big0, big1, big2, big3, big4, big5, big6, big7, if_true, if_false, Nat.reduceAdd, Nat.reduceSub, Nat.reduceLT, ↓reduceIte, dec_lt, dec_le, dec_eq, eq_int, lst_of, Bool.false_eq_true, d__law_same, b__law_same, e1, srtC, decide_true, Bool.not_true, c35, c56, hl]
      refine lc_noneR (fun z hz => ?_) ?_
      · obtain ⟨i, x, rfl, hi⟩ := enm_mem hz
        have hm := List.mem_of_getElem? hi
        have q := ih x (Nat.le_trans (depL_mem x hm) hdp) (sdL_mem hx.1 x hm) k
        have hil : i < xs.length := (List.getElem?_eq_some_iff.mp hi).1
        have hix : ixD xs ((0 + i : Nat) : Int) = some x := by rw [Nat.zero_add, ixD_nat hil, hi]
        simp only [startR, exSs, exS, evE, evEs, evI, evO, evC, getR_0, getR_s, setR, tgR, wipeR, idx_tup, idx_lst, idx_dW0, idx_dW1, bi_len_t, bi_len_l, bi_all, bi_any, bi_min2, bi_max2, bi_tuple_l, bi_tuple_t, bi_list_l, bi_list_t, bi_int, bi_srt_l, bi_srt_t, bi_sset, bi_ssetT, chkB_bl, seq_t, seq_l, b_add, b_sub, ty_non, ty_bl, ty_int, ty_str, ty_tup, ty_lst, ty_dW, List.map_cons, List.map_nil, List.cons_append, List.nil_append, List.replicate_succ, List.replicate_zero, List.length_cons, List.length_nil, List.set_cons_zero, List.set_cons_succ, bnd_ok, bnd_bnd, noex_ok, opt_some, Option.map_some, Option.bind_some, List.getElem?_cons_zero, List.getElem?_cons_succ, ixD_0, ixD_1, ixD_2, cmpD_in, cmpD_inL, cmpD_not, cmpD_notL, cmpD_eq, cmpD_ne, cmpD_lt, cmpD_gt, cmpD_le, cmpD_ge, big0, big1, big2, big3, big4, big5, big6, big7, if_true, if_false, Nat.reduceAdd, Nat.reduceSub, Nat.reduceLT, ↓reduceIte, dec_lt, dec_le, dec_eq, eq_int, lst_of, Bool.false_eq_true, setRs, hix, q, Bool.not_true]
      · simp only [startR, exSs, exS, evE, evEs, evI, evO, evC, getR_0, getR_s, setR, tgR, wipeR, idx_tup, idx_lst, idx_dW0, idx_dW1, bi_len_t, bi_len_l, bi_all, bi_any, bi_min2, bi_max2, bi_tuple_l, bi_tuple_t, bi_list_l, bi_list_t, bi_int, bi_srt_l, bi_srt_t, bi_sset, bi_ssetT, chkB_bl, seq_t, seq_l, b_add, b_sub, ty_non, ty_bl, ty_int, ty_str, ty_tup, ty_lst, ty_dW, List.map_cons, List.map_nil, List.cons_append, List.nil_append, List.replicate_succ, List.replicate_zero, List.length_cons, List.length_nil, List.set_cons_zero, List.set_cons_succ, bnd_ok, bnd_bnd, noex_ok, opt_some, Option.map_some, Option.bind_some, List.getElem?_cons_zero, List.getElem?_cons_succ, ixD_0, ixD_1, ixD_2, cmpD_in, cmpD_inL, cmpD_not, cmpD_notL, cmpD_eq, cmpD_ne, cmpD_lt, cmpD_gt, cmpD_le, cmpD_ge, big0, big1, big2, big3, big4, big5, big6, big7, if_true, if_false, Nat.reduceAdd, Nat.reduceSub, Nat.reduceLT, ↓reduceIte, dec_lt, dec_le, dec_eq, eq_int, lst_of, Bool.false_eq_true, eq_nil]
    | lst xs =>
      have hx : sdL xs = true ∧ xs.length ≤ 1000 := by
        have z : (sdL xs && decide (xs.length ≤ 1000)) = true := h
        exact ⟨(oa z).1, of_decide_eq_true (oa z).2⟩
      have hdp : depL xs ≤ m := by
        have z : depL xs + 1 ≤ m + 1 := hd
        omega
      have hl : (enmD 0 xs).length ≤ big := by rw [enm_len]; unfold big; omega
      simp only [startR, exSs, exS, evE, evEs, evI, evO, evC, getR_0, getR_s, setR, tgR, wipeR, idx_tup, idx_lst, idx_dW0, idx_dW1, bi_len_t, bi_len_l, bi_all, bi_any, bi_min2, bi_max2, bi_tuple_l, bi_tuple_t, bi_list_l, bi_list_t, bi_int, bi_srt_l, bi_srt_t, bi_sset, bi_ssetT, chkB_bl, seq_t, seq_l, b_add, b_sub, ty_non, ty_bl, ty_int, ty_str, ty_tup, ty_lst, ty_dW, List.map_cons, List.map_nil, List.cons_append, List.nil_append, List.replicate_succ, List.replicate_zero, List.length_cons, List.length_nil, List.set_cons_zero, List.set_cons_succ, bnd_ok, bnd_bnd, noex_ok, opt_some, Option.map_some, Option.bind_some, List.getElem?_cons_zero, List.getElem?_cons_succ, ixD_0, ixD_1, ixD_2, cmpD_in, cmpD_inL, cmpD_not, cmpD_notL, cmpD_eq, cmpD_ne, cmpD_lt, cmpD_gt, cmpD_le, cmpD_ge, big0, big1, big2, big3, big4, big5, big6, big7, if_true, if_false, Nat.reduceAdd, Nat.reduceSub, Nat.reduceLT, ↓reduceIte, dec_lt, dec_le, dec_eq, eq_int, lst_of, Bool.false_eq_true, d__law_same, b__law_same, e1, srtC, decide_true, Bool.not_true, c34, c46, hl]
      refine lc_noneR (fun z hz => ?_) ?_
      · obtain ⟨i, x, rfl, hi⟩ := enm_mem hz
        have hm := List.mem_of_getElem? hi
        have q := ih x (Nat.le_trans (depL_mem x hm) hdp) (sdL_mem hx.1 x hm) k
        have hil : i < xs.length := (List.getElem?_eq_some_iff.mp hi).1
        have hix : ixD xs ((0 + i : Nat) : Int) = some x := by rw [Nat.zero_add, ixD_nat hil, hi]
        simp only [startR, exSs, exS, evE, evEs, evI, evO, evC, getR_0, getR_s, setR, tgR, wipeR, idx_tup, idx_lst, idx_dW0, idx_dW1, bi_len_t, bi_len_l, bi_all, bi_any, bi_min2, bi_max2, bi_tuple_l, bi_tuple_t, bi_list_l, bi_list_t, bi_int, bi_srt_l, bi_srt_t, bi_sset, bi_ssetT, chkB_bl, seq_t, seq_l, b_add, b_sub, ty_non, ty_bl, ty_int, ty_str, ty_tup, ty_lst, ty_dW, List.map_cons, List.map_nil, List.cons_append, List.nil_append, List.replicate_succ, List.replicate_zero, List.length_cons, List.length_nil, List.set_cons_zero, List.set_cons_succ, bnd_ok, bnd_bnd, noex_ok, opt_some, Option.map_some, Option.bind_some, List.getElem?_cons_zero, List.getElem?_cons_succ, ixD_0, ixD_1, ixD_2, cmpD_in, cmpD_inL, cmpD_not, cmpD_notL, cmpD_eq, cmpD_ne, cmpD_lt, cmpD_gt, cmpD_le, cmpD_ge, big0, big1, big2, big3, big4, big5, big6, big7, if_true, if_false, Nat.reduceAdd, Nat.reduceSub, Nat.reduceLT, ↓reduceIte, dec_lt, dec_le, dec_eq, eq_int, lst_of, Bool.false_eq_true, setRs, hix, q, Bool.not_true]
      · simp only [startR, exSs, exS, evE, evEs, evI, evO, evC, getR_0, getR_s, setR, tgR, wipeR, idx_tup, idx_lst, idx_dW0, idx_dW1, bi_len_t, bi_len_l, bi_all, bi_any, bi_min2, bi_max2, bi_tuple_l, bi_tuple_t, bi_list_l, bi_list_t, bi_int, bi_srt_l, bi_srt_t, bi_sset, bi_ssetT, chkB_bl, seq_t, seq_l, b_add, b_sub, ty_non, ty_bl, ty_int, ty_str, ty_tup, ty_lst, ty_dW, List.map_cons, List.map_nil, List.cons_append, List.nil_append, List.replicate_succ, List.replicate_zero, List.length_cons, List.length_nil, List.set_cons_zero, List.set_cons_succ, bnd_ok, bnd_bnd, noex_ok, opt_some, Option.map_some, Option.bind_some, List.getElem?_cons_zero, List.getElem?_cons_succ, ixD_0, ixD_1, ixD_2, cmpD_in, cmpD_inL, cmpD_not, cmpD_notL, cmpD_eq, cmpD_ne, cmpD_lt, cmpD_gt, cmpD_le, cmpD_ge, big0, big1, big2, big3, big4, big5, big6, big7, if_true, if_false, Nat.reduceAdd, Nat.reduceSub, Nat.reduceLT, ↓reduceIte, dec_lt, dec_le, dec_eq, eq_int, lst_of, Bool.false_eq_true, eq_nil]
    | non => exact scal (fun _ e => nomatch e) (fun _ e => nomatch e)
    | bl b => exact scal (fun _ e => nomatch e) (fun _ e => nomatch e)
    | int i => exact scal (fun _ e => nomatch e) (fun _ e => nomatch e)
    | str x => exact scal (fun _ e => nomatch e) (fun _ e => nomatch e)
    | box _ => cases h
    | fn _ => cases h
    | xc _ => cases h
end Tw.K09
end
section
open PySem
namespace Tw.K09
theorem led_turn {k n : Nat} {U : List (Nat × Nat)} {first : Nat} {found : List Nat} {x4 x5 x6 : Sl} {s : S} (hU : U.length ≤ 100) (hf : found ≠ []) (hl : found.length ≤ 100) : ∃ r',
    exSs (calF ds k) (match b__law_led with | .cons _ (.cons (.whl _ b) _) => b | _ => .nil) k [.v (.lst (U.map dP)), .v (dN first), .v (.lst (found.map dN)), .v (.bl true), x4, x5, x6, .no] s = .ok (.nx r') s ∧
      ∃ y5 y6, r' = [.v (.lst (U.map dP)), .v (dN first), .v (.lst ((found ++ (nxt U found).take 1).map dN)), .v (.bl (!decide (nxt U found = []))), .v (.lst ((nxt U found).map dN)), y5, y6, .no] := by
  have hbn := nb_len U (lastN found)
  have hb1 : (nb U (lastN found)).length ≤ big := by unfold big; omega
  have hb2 : ((nb U (lastN found)).filter fun y => decide (y ∉ found)).length ≤ big := Nat.le_trans (filt_len _ _) hb1
  simp only [startR, exSs, exS, evE, evEs, evI, evO, evC, getR_0, getR_s, setR, tgR, wipeR, idx_tup, idx_lst, idx_dW0, idx_dW1, bi_len_t, bi_len_l, bi_all, bi_any, bi_min2, bi_max2, bi_tuple_l, bi_tuple_t, bi_list_l, bi_list_t, bi_int, bi_srt_l, bi_srt_t, bi_sset, bi_ssetT, chkB_bl, seq_t, seq_l, b_add, b_sub, ty_non, ty_bl, ty_int, ty_str, ty_tup, ty_lst, ty_dW, List.map_cons, List.map_nil, List.cons_append, List.nil_append, List.replicate_succ, List.replicate_zero, List.length_cons, List.length_nil, List.set_cons_zero, List.set_cons_succ, bnd_ok, bnd_bnd, noex_ok, opt_some, Option.map_some, Option.bind_some, List.getElem?_cons_zero, List.getElem?_cons_succ, ixD_0, ixD_1, ixD_2, cmpD_in, cmpD_inL, cmpD_not, cmpD_notL, cmpD_eq, cmpD_ne, cmpD_lt, cmpD_gt, cmpD_le, cmpD_ge, big0, big1, big2, big3, big4, big5, big6, big7, if_true, if_false, Nat.reduceAdd, Nat.reduceSub, Nat.reduceLT, ↓reduceIte, dec_lt, dec_le, dec_eq, eq_int, lst_of, Bool.false_eq_true, b__law_led, setO]
  refine for_ex (g := dP) (P := fun done r => ∃ y5 y6, r = [Sl.v (.lst (U.map dP)), .v (dN first), .v (.lst (found.map dN)), .v (.bl true), .own ((nb done (lastN found)).map dN), y5, y6, .no]) ⟨_, _, rfl⟩ (fun p done rest r e h => ?_) (fun r hr => ?_)
  · obtain ⟨y5, y6, rfl⟩ := h
    have hd : done.length + 1 ≤ 100 := by have := congrArg List.length e; simp at this; omega
    have hb := nb_len done (lastN found)
    refine ⟨[Sl.v (.lst (U.map dP)), .v (dN first), .v (.lst (found.map dN)), .v (.bl true), .own ((nb (done ++ [p]) (lastN found)).map dN), .v (dN p.1), .v (dN p.2), .no], ?_, _, _, rfl⟩
    rw [nb_snoc]
    simp only [startR, exSs, exS, evE, evEs, evI, evO, evC, getR_0, getR_s, setR, tgR, wipeR, idx_tup, idx_lst, idx_dW0, idx_dW1, bi_len_t, bi_len_l, bi_all, bi_any, bi_min2, bi_max2, bi_tuple_l, bi_tuple_t, bi_list_l, bi_list_t, bi_int, bi_srt_l, bi_srt_t, bi_sset, bi_ssetT, chkB_bl, seq_t, seq_l, b_add, b_sub, ty_non, ty_bl, ty_int, ty_str, ty_tup, ty_lst, ty_dW, List.map_cons, List.map_nil, List.cons_append, List.nil_append, List.replicate_succ, List.replicate_zero, List.length_cons, List.length_nil, List.set_cons_zero, List.set_cons_succ, bnd_ok, bnd_bnd, noex_ok, opt_some, Option.map_some, Option.bind_some, List.getElem?_cons_zero, List.getElem?_cons_succ, ixD_0, ixD_1, ixD_2, cmpD_in, cmpD_inL, cmpD_not, cmpD_notL, cmpD_eq, cmpD_ne, cmpD_lt, cmpD_gt, cmpD_le, cmpD_ge, big0, big1, big2, big3, big4, big5, big6, big7, if_true, if_false, Nat.reduceAdd, Nat.reduceSub, Nat.reduceLT, ↓reduceIte, dec_lt, dec_le, dec_eq, eq_int, lst_of, Bool.false_eq_true, setRs, dP_tup, last_dL hf, in_two]
    cases h : atB (lastN found) p with
    | false => simp only [startR, exSs, exS, evE, evEs, evI, evO, evC, getR_0, getR_s, setR, tgR, wipeR, idx_tup, idx_lst, idx_dW0, idx_dW1, bi_len_t, bi_len_l, bi_all, bi_any, bi_min2, bi_max2, bi_tuple_l, bi_tuple_t, bi_list_l, bi_list_t, bi_int, bi_srt_l, bi_srt_t, bi_sset, bi_ssetT, chkB_bl, seq_t, seq_l, b_add, b_sub, ty_non, ty_bl, ty_int, ty_str, ty_tup, ty_lst, ty_dW, List.map_cons, List.map_nil, List.cons_append, List.nil_append, List.replicate_succ, List.replicate_zero, List.length_cons, List.length_nil, List.set_cons_zero, List.set_cons_succ, bnd_ok, bnd_bnd, noex_ok, opt_some, Option.map_some, Option.bind_some, List.getElem?_cons_zero, List.getElem?_cons_succ, ixD_0, ixD_1, ixD_2, cmpD_in, cmpD_inL, cmpD_not, cmpD_notL, cmpD_eq, cmpD_ne, cmpD_lt, cmpD_gt, cmpD_le, cmpD_ge, big0, big1, big2, big3, big4, big5, big6, big7, if_true, if_false, Nat.reduceAdd, Nat.reduceSub, Nat.reduceLT, ↓reduceIte, dec_lt, dec_le, dec_eq, eq_int, lst_of, Bool.false_eq_true]
    | true =>
      have hlt : (nb done (lastN found)).length < big := by unfold big; omega
      unfold othN
      by_cases z : p.1 = lastN found
      · simp only [startR, exSs, exS, evE, evEs, evI, evO, evC, getR_0, getR_s, setR, tgR, wipeR, idx_tup, idx_lst, idx_dW0, idx_dW1, bi_len_t, bi_len_l, bi_all, bi_any, bi_min2, bi_max2, bi_tuple_l, bi_tuple_t, bi_list_l, bi_list_t, bi_int, bi_srt_l, bi_srt_t, bi_sset, bi_ssetT, chkB_bl, seq_t, seq_l, b_add, b_sub, ty_non, ty_bl, ty_int, ty_str, ty_tup, ty_lst, ty_dW, List.map_cons, List.map_nil, List.cons_append, List.nil_append, List.replicate_succ, List.replicate_zero, List.length_cons, List.length_nil, List.set_cons_zero, List.set_cons_succ, bnd_ok, bnd_bnd, noex_ok, opt_some, Option.map_some, Option.bind_some, List.getElem?_cons_zero, List.getElem?_cons_succ, ixD_0, ixD_1, ixD_2, cmpD_in, cmpD_inL, cmpD_not, cmpD_notL, cmpD_eq, cmpD_ne, cmpD_lt, cmpD_gt, cmpD_le, cmpD_ge, big0, big1, big2, big3, big4, big5, big6, big7, if_true, if_false, Nat.reduceAdd, Nat.reduceSub, Nat.reduceLT, ↓reduceIte, dec_lt, dec_le, dec_eq, eq_int, lst_of, Bool.false_eq_true, z, decide_true, last_dL hf, List.length_map, hlt, List.map_append]
      · simp only [startR, exSs, exS, evE, evEs, evI, evO, evC, getR_0, getR_s, setR, tgR, wipeR, idx_tup, idx_lst, idx_dW0, idx_dW1, bi_len_t, bi_len_l, bi_all, bi_any, bi_min2, bi_max2, bi_tuple_l, bi_tuple_t, bi_list_l, bi_list_t, bi_int, bi_srt_l, bi_srt_t, bi_sset, bi_ssetT, chkB_bl, seq_t, seq_l, b_add, b_sub, ty_non, ty_bl, ty_int, ty_str, ty_tup, ty_lst, ty_dW, List.map_cons, List.map_nil, List.cons_append, List.nil_append, List.replicate_succ, List.replicate_zero, List.length_cons, List.length_nil, List.set_cons_zero, List.set_cons_succ, bnd_ok, bnd_bnd, noex_ok, opt_some, Option.map_some, Option.bind_some, List.getElem?_cons_zero, List.getElem?_cons_succ, ixD_0, ixD_1, ixD_2, cmpD_in, cmpD_inL, cmpD_not, cmpD_notL, cmpD_eq, cmpD_ne, cmpD_lt, cmpD_gt, cmpD_le, cmpD_ge, big0, big1, big2, big3, big4, big5, big6, big7, if_true, if_false, Nat.reduceAdd, Nat.reduceSub, Nat.reduceLT, ↓reduceIte, dec_lt, dec_le, dec_eq, eq_int, lst_of, Bool.false_eq_true, z, decide_false, last_dL hf, List.length_map, hlt, List.map_append]
  · obtain ⟨y5, y6, rfl⟩ := hr
    refine ⟨[.v (.lst (U.map dP)), .v (dN first), .v (.lst ((found ++ (nxt U found).take 1).map dN)), .v (.bl (!decide (nxt U found = []))), .v (.lst ((nxt U found).map dN)), y5, y6, .no], ?_, y5, y6, rfl⟩
    simp only [startR, exSs, exS, evE, evEs, evI, evO, evC, getR_0, getR_s, setR, tgR, wipeR, idx_tup, idx_lst, idx_dW0, idx_dW1, bi_len_t, bi_len_l, bi_all, bi_any, bi_min2, bi_max2, bi_tuple_l, bi_tuple_t, bi_list_l, bi_list_t, bi_int, bi_srt_l, bi_srt_t, bi_sset, bi_ssetT, chkB_bl, seq_t, seq_l, b_add, b_sub, ty_non, ty_bl, ty_int, ty_str, ty_tup, ty_lst, ty_dW, List.map_cons, List.map_nil, List.cons_append, List.nil_append, List.replicate_succ, List.replicate_zero, List.length_cons, List.length_nil, List.set_cons_zero, List.set_cons_succ, bnd_ok, bnd_bnd, noex_ok, opt_some, Option.map_some, Option.bind_some, List.getElem?_cons_zero, List.getElem?_cons_succ, ixD_0, ixD_1, ixD_2, cmpD_in, cmpD_inL, cmpD_not, cmpD_notL, cmpD_eq, cmpD_ne, cmpD_lt, cmpD_gt, cmpD_le, cmpD_ge, big0, big1, big2, big3, big4, big5, big6, big7, if_true, if_false, Nat.reduceAdd, Nat.reduceSub, Nat.reduceLT, ↓reduceIte, dec_lt, dec_le, dec_eq, eq_int, lst_of, Bool.false_eq_true, List.length_map, hb1]
    refine lc_run (g := dN) (p := fun y => decide (y ∉ found)) (h := dN) (fun y _ => ?_) ?_
    · simp only [startR, exSs, exS, evE, evEs, evI, evO, evC, getR_0, getR_s, setR, tgR, wipeR, idx_tup, idx_lst, idx_dW0, idx_dW1, bi_len_t, bi_len_l, bi_all, bi_any, bi_min2, bi_max2, bi_tuple_l, bi_tuple_t, bi_list_l, bi_list_t, bi_int, bi_srt_l, bi_srt_t, bi_sset, bi_ssetT, chkB_bl, seq_t, seq_l, b_add, b_sub, ty_non, ty_bl, ty_int, ty_str, ty_tup, ty_lst, ty_dW, List.map_cons, List.map_nil, List.cons_append, List.nil_append, List.replicate_succ, List.replicate_zero, List.length_cons, List.length_nil, List.set_cons_zero, List.set_cons_succ, bnd_ok, bnd_bnd, noex_ok, opt_some, Option.map_some, Option.bind_some, List.getElem?_cons_zero, List.getElem?_cons_succ, ixD_0, ixD_1, ixD_2, cmpD_in, cmpD_inL, cmpD_not, cmpD_notL, cmpD_eq, cmpD_ne, cmpD_lt, cmpD_gt, cmpD_le, cmpD_ge, big0, big1, big2, big3, big4, big5, big6, big7, if_true, if_false, Nat.reduceAdd, Nat.reduceSub, Nat.reduceLT, ↓reduceIte, dec_lt, dec_le, dec_eq, eq_int, lst_of, Bool.false_eq_true, in_dN]
      by_cases h : y ∈ found
      · simp only [h, decide_true, startR, exSs, exS, evE, evEs, evI, evO, evC, getR_0, getR_s, setR, tgR, wipeR, idx_tup, idx_lst, idx_dW0, idx_dW1, bi_len_t, bi_len_l, bi_all, bi_any, bi_min2, bi_max2, bi_tuple_l, bi_tuple_t, bi_list_l, bi_list_t, bi_int, bi_srt_l, bi_srt_t, bi_sset, bi_ssetT, chkB_bl, seq_t, seq_l, b_add, b_sub, ty_non, ty_bl, ty_int, ty_str, ty_tup, ty_lst, ty_dW, List.map_cons, List.map_nil, List.cons_append, List.nil_append, List.replicate_succ, List.replicate_zero, List.length_cons, List.length_nil, List.set_cons_zero, List.set_cons_succ, bnd_ok, bnd_bnd, noex_ok, opt_some, Option.map_some, Option.bind_some, List.getElem?_cons_zero, List.getElem?_cons_succ, ixD_0, ixD_1, ixD_2, cmpD_in, cmpD_inL, cmpD_not, cmpD_notL, cmpD_eq, cmpD_ne, cmpD_lt, cmpD_gt, cmpD_le, cmpD_ge, big0, big1, big2, big3, big4, big5, big6, big7, if_true, if_false, Nat.reduceAdd, Nat.reduceSub, Nat.reduceLT, ↓reduceIte, dec_lt, dec_le, dec_eq, eq_int, lst_of, Bool.false_eq_true, Bool.not_true, not_true_eq_false, decide_false]
      · simp only [h, decide_false, startR, exSs, exS, evE, evEs, evI, evO, evC, getR_0, getR_s, setR, tgR, wipeR, idx_tup, idx_lst, idx_dW0, idx_dW1, bi_len_t, bi_len_l, bi_all, bi_any, bi_min2, bi_max2, bi_tuple_l, bi_tuple_t, bi_list_l, bi_list_t, bi_int, bi_srt_l, bi_srt_t, bi_sset, bi_ssetT, chkB_bl, seq_t, seq_l, b_add, b_sub, ty_non, ty_bl, ty_int, ty_str, ty_tup, ty_lst, ty_dW, List.map_cons, List.map_nil, List.cons_append, List.nil_append, List.replicate_succ, List.replicate_zero, List.length_cons, List.length_nil, List.set_cons_zero, List.set_cons_succ, bnd_ok, bnd_bnd, noex_ok, opt_some, Option.map_some, Option.bind_some, List.getElem?_cons_zero, List.getElem?_cons_succ, ixD_0, ixD_1, ixD_2, cmpD_in, cmpD_inL, cmpD_not, cmpD_notL, cmpD_eq, cmpD_ne, cmpD_lt, cmpD_gt, cmpD_le, cmpD_ge, big0, big1, big2, big3, big4, big5, big6, big7, if_true, if_false, Nat.reduceAdd, Nat.reduceSub, Nat.reduceLT, ↓reduceIte, dec_lt, dec_le, dec_eq, eq_int, lst_of, Bool.false_eq_true, Bool.not_false, not_false_eq_true, decide_true]
    · have hx : sortD (((nb U (lastN found)).filter fun y => decide (y ∉ found)).map dN) = (nxt U found).map dN := sortD_dN _
      have hn : (nxt U found).length ≤ 100 := by
        unfold nxt
        rw [srtN_len]
        exact Nat.le_trans (filt_len _ _) (by omega)
      simp only [startR, exSs, exS, evE, evEs, evI, evO, evC, getR_0, getR_s, setR, tgR, wipeR, idx_tup, idx_lst, idx_dW0, idx_dW1, bi_len_t, bi_len_l, bi_all, bi_any, bi_min2, bi_max2, bi_tuple_l, bi_tuple_t, bi_list_l, bi_list_t, bi_int, bi_srt_l, bi_srt_t, bi_sset, bi_ssetT, chkB_bl, seq_t, seq_l, b_add, b_sub, ty_non, ty_bl, ty_int, ty_str, ty_tup, ty_lst, ty_dW, List.map_cons, List.map_nil, List.cons_append, List.nil_append, List.replicate_succ, List.replicate_zero, List.length_cons, List.length_nil, List.set_cons_zero, List.set_cons_succ, bnd_ok, bnd_bnd, noex_ok, opt_some, Option.map_some, Option.bind_some, List.getElem?_cons_zero, List.getElem?_cons_succ, ixD_0, ixD_1, ixD_2, cmpD_in, cmpD_inL, cmpD_not, cmpD_notL, cmpD_eq, cmpD_ne, cmpD_lt, cmpD_gt, cmpD_le, cmpD_ge, big0, big1, big2, big3, big4, big5, big6, big7, if_true, if_false, Nat.reduceAdd, Nat.reduceSub, Nat.reduceLT, ↓reduceIte, dec_lt, dec_le, dec_eq, eq_int, lst_of, Bool.false_eq_true, srt_nats hb2, hx, eq_nilN, slL, cut_one]
      rw [b_addL (by simp only [List.length_map, List.length_take]; unfold big; omega), ← List.map_append]
      simp only [startR, exSs, exS, evE, evEs, evI, evO, evC, getR_0, getR_s, setR, tgR, wipeR, idx_tup, idx_lst, idx_dW0, idx_dW1, bi_len_t, bi_len_l, bi_all, bi_any, bi_min2, bi_max2, bi_tuple_l, bi_tuple_t, bi_list_l, bi_list_t, bi_int, bi_srt_l, bi_srt_t, bi_sset, bi_ssetT, chkB_bl, seq_t, seq_l, b_add, b_sub, ty_non, ty_bl, ty_int, ty_str, ty_tup, ty_lst, ty_dW, List.map_cons, List.map_nil, List.cons_append, List.nil_append, List.replicate_succ, List.replicate_zero, List.length_cons, List.length_nil, List.set_cons_zero, List.set_cons_succ, bnd_ok, bnd_bnd, noex_ok, opt_some, Option.map_some, Option.bind_some, List.getElem?_cons_zero, List.getElem?_cons_succ, ixD_0, ixD_1, ixD_2, cmpD_in, cmpD_inL, cmpD_not, cmpD_notL, cmpD_eq, cmpD_ne, cmpD_lt, cmpD_gt, cmpD_le, cmpD_ge, big0, big1, big2, big3, big4, big5, big6, big7, if_true, if_false, Nat.reduceAdd, Nat.reduceSub, Nat.reduceLT, ↓reduceIte, dec_lt, dec_le, dec_eq, eq_int, lst_of, Bool.false_eq_true]
theorem led_run {k n : Nat} {U : List (Nat × Nat)} {first : Nat} {s : S} (hU : U.length ≤ 100) (hn : n ≤ 7) (hb : ∀ p ∈ U, p.1 < n ∧ p.2 < n) : ∀ (F : Nat) (found : List Nat) (x4 x5 x6 : Sl), found ≠ [] → found.Nodup → (∀ a ∈ found, a < n) → n ≤ F + found.length → ∃ y4 y5 y6,
    whlLoop (fun r s => evE (calF ds k) r (.var 3) k s) (fun r s => exSs (calF ds k) (match b__law_led with | .cons _ (.cons (.whl _ b) _) => b | _ => .nil) k r s) (F + 2) [.v (.lst (U.map dP)), .v (dN first), .v (.lst (found.map dN)), .v (.bl true), x4, x5, x6, .no] s =
      .ok (.nx [.v (.lst (U.map dP)), .v (dN first), .v (.lst ((ledF U F found).map dN)), .v (.bl false), y4, y5, y6, .no]) s := by
  intro F
  induction F with
  | zero =>
    intro found x4 x5 x6 h1 h2 h3 h4
    have hl := nodup_len h2 h3
    obtain ⟨r', e, y5, y6, rfl⟩ := led_turn (k := k) (n := n) (first := first) (x4 := x4) (x5 := x5) (x6 := x6) (s := s) hU h1 (show found.length ≤ 100 by omega)
    have hz : nxt U found = [] := by
      cases hq : nxt U found with
      | nil => rfl
      | cons y l =>
        have hy : y ∈ nxt U found := by rw [hq]; exact .head _
        unfold nxt at hy
        obtain ⟨q1, q2⟩ := List.mem_filter.mp (srtN_mem.mp hy)
        exact absurd (nodup_full h2 h3 (by omega) (nb_lt hb y q1)) (of_decide_eq_true q2)
    rw [hz] at e
    refine ⟨.v (.lst (([] : List Nat).map dN)), y5, y6, ?_⟩
    unfold whlLoop
    simp only [startR, exSs, exS, evE, evEs, evI, evO, evC, getR_0, getR_s, setR, tgR, wipeR, idx_tup, idx_lst, idx_dW0, idx_dW1, bi_len_t, bi_len_l, bi_all, bi_any, bi_min2, bi_max2, bi_tuple_l, bi_tuple_t, bi_list_l, bi_list_t, bi_int, bi_srt_l, bi_srt_t, bi_sset, bi_ssetT, chkB_bl, seq_t, seq_l, b_add, b_sub, ty_non, ty_bl, ty_int, ty_str, ty_tup, ty_lst, ty_dW, List.map_cons, List.map_nil, List.cons_append, List.nil_append, List.replicate_succ, List.replicate_zero, List.length_cons, List.length_nil, List.set_cons_zero, List.set_cons_succ, bnd_ok, bnd_bnd, noex_ok, opt_some, Option.map_some, Option.bind_some, List.getElem?_cons_zero, List.getElem?_cons_succ, ixD_0, ixD_1, ixD_2, cmpD_in, cmpD_inL, cmpD_not, cmpD_notL, cmpD_eq, cmpD_ne, cmpD_lt, cmpD_gt, cmpD_le, cmpD_ge, big0, big1, big2, big3, big4, big5, big6, big7, if_true, if_false, Nat.reduceAdd, Nat.reduceSub, Nat.reduceLT, ↓reduceIte, dec_lt, dec_le, dec_eq, eq_int, lst_of, Bool.false_eq_true, e]
    unfold whlLoop
    simp only [startR, exSs, exS, evE, evEs, evI, evO, evC, getR_0, getR_s, setR, tgR, wipeR, idx_tup, idx_lst, idx_dW0, idx_dW1, bi_len_t, bi_len_l, bi_all, bi_any, bi_min2, bi_max2, bi_tuple_l, bi_tuple_t, bi_list_l, bi_list_t, bi_int, bi_srt_l, bi_srt_t, bi_sset, bi_ssetT, chkB_bl, seq_t, seq_l, b_add, b_sub, ty_non, ty_bl, ty_int, ty_str, ty_tup, ty_lst, ty_dW, List.map_cons, List.map_nil, List.cons_append, List.nil_append, List.replicate_succ, List.replicate_zero, List.length_cons, List.length_nil, List.set_cons_zero, List.set_cons_succ, bnd_ok, bnd_bnd, noex_ok, opt_some, Option.map_some, Option.bind_some, List.getElem?_cons_zero, List.getElem?_cons_succ, ixD_0, ixD_1, ixD_2, cmpD_in, cmpD_inL, cmpD_not, cmpD_notL, cmpD_eq, cmpD_ne, cmpD_lt, cmpD_gt, cmpD_le, cmpD_ge, big0, big1, big2, big3, big4, big5, big6, big7, if_true, if_false, Nat.reduceAdd, Nat.reduceSub, Nat.reduceLT, ↓reduceIte, dec_lt, dec_le, dec_eq, eq_int, lst_of, Bool.false_eq_true, List.take_nil, List.append_nil, decide_true, Bool.not_true]
    rfl
  | succ F ih =>
    intro found x4 x5 x6 h1 h2 h3 h4
    have hl := nodup_len h2 h3
    obtain ⟨r', e, y5, y6, rfl⟩ := led_turn (k := k) (n := n) (first := first) (x4 := x4) (x5 := x5) (x6 := x6) (s := s) hU h1 (show found.length ≤ 100 by omega)
    cases hq : nxt U found with
    | nil =>
      rw [hq] at e
      refine ⟨.v (.lst (([] : List Nat).map dN)), y5, y6, ?_⟩
      unfold whlLoop
      simp only [startR, exSs, exS, evE, evEs, evI, evO, evC, getR_0, getR_s, setR, tgR, wipeR, idx_tup, idx_lst, idx_dW0, idx_dW1, bi_len_t, bi_len_l, bi_all, bi_any, bi_min2, bi_max2, bi_tuple_l, bi_tuple_t, bi_list_l, bi_list_t, bi_int, bi_srt_l, bi_srt_t, bi_sset, bi_ssetT, chkB_bl, seq_t, seq_l, b_add, b_sub, ty_non, ty_bl, ty_int, ty_str, ty_tup, ty_lst, ty_dW, List.map_cons, List.map_nil, List.cons_append, List.nil_append, List.replicate_succ, List.replicate_zero, List.length_cons, List.length_nil, List.set_cons_zero, List.set_cons_succ, bnd_ok, bnd_bnd, noex_ok, opt_some, Option.map_some, Option.bind_some, List.getElem?_cons_zero, List.getElem?_cons_succ, ixD_0, ixD_1, ixD_2, cmpD_in, cmpD_inL, cmpD_not, cmpD_notL, cmpD_eq, cmpD_ne, cmpD_lt, cmpD_gt, cmpD_le, cmpD_ge, big0, big1, big2, big3, big4, big5, big6, big7, if_true, if_false, Nat.reduceAdd, Nat.reduceSub, Nat.reduceLT, ↓reduceIte, dec_lt, dec_le, dec_eq, eq_int, lst_of, Bool.false_eq_true, e]
      unfold whlLoop
      simp only [startR, exSs, exS, evE, evEs, evI, evO, evC, getR_0, getR_s, setR, tgR, wipeR, idx_tup, idx_lst, idx_dW0, idx_dW1, bi_len_t, bi_len_l, bi_all, bi_any, bi_min2, bi_max2, bi_tuple_l, bi_tuple_t, bi_list_l, bi_list_t, bi_int, bi_srt_l, bi_srt_t, bi_sset, bi_ssetT, chkB_bl, seq_t, seq_l, b_add, b_sub, ty_non, ty_bl, ty_int, ty_str, ty_tup, ty_lst, ty_dW, List.map_cons, List.map_nil, List.cons_append, List.nil_append, List.replicate_succ, List.replicate_zero, List.length_cons, List.length_nil, List.set_cons_zero, List.set_cons_succ, bnd_ok, bnd_bnd, noex_ok, opt_some, Option.map_some, Option.bind_some, List.getElem?_cons_zero, List.getElem?_cons_succ, ixD_0, ixD_1, ixD_2, cmpD_in, cmpD_inL, cmpD_not, cmpD_notL, cmpD_eq, cmpD_ne, cmpD_lt, cmpD_gt, cmpD_le, cmpD_ge, big0, big1, big2, big3, big4, big5, big6, big7, if_true, if_false, Nat.reduceAdd, Nat.reduceSub, Nat.reduceLT, ↓reduceIte, dec_lt, dec_le, dec_eq, eq_int, lst_of, Bool.false_eq_true, List.take_nil, List.append_nil, decide_true, Bool.not_true]
      unfold ledF
      rw [hq]
    | cons y l =>
      rw [hq] at e
      have hy : y ∈ nxt U found := by rw [hq]; exact .head _
      unfold nxt at hy
      obtain ⟨q1, q2⟩ := List.mem_filter.mp (srtN_mem.mp hy)
      have q2 := of_decide_eq_true q2
      obtain ⟨z4, z5, z6, ez⟩ := ih (found ++ [y]) (.v (.lst ((y :: l).map dN))) y5 y6 (by simp) (List.nodup_append.mpr ⟨h2, by simp, fun a ha b hb e => q2 (by rw [← (show b = y by simpa using hb), ← e]; exact ha)⟩)
        (fun a ha => by
          rcases List.mem_append.mp ha with z | z
          · exact h3 a z
          · rw [show a = y by simpa using z]; exact nb_lt hb y q1) (by rw [List.length_append]; simp; omega)
      refine ⟨z4, z5, z6, ?_⟩
      unfold whlLoop
      simp only [startR, exSs, exS, evE, evEs, evI, evO, evC, getR_0, getR_s, setR, tgR, wipeR, idx_tup, idx_lst, idx_dW0, idx_dW1, bi_len_t, bi_len_l, bi_all, bi_any, bi_min2, bi_max2, bi_tuple_l, bi_tuple_t, bi_list_l, bi_list_t, bi_int, bi_srt_l, bi_srt_t, bi_sset, bi_ssetT, chkB_bl, seq_t, seq_l, b_add, b_sub, ty_non, ty_bl, ty_int, ty_str, ty_tup, ty_lst, ty_dW, List.map_cons, List.map_nil, List.cons_append, List.nil_append, List.replicate_succ, List.replicate_zero, List.length_cons, List.length_nil, List.set_cons_zero, List.set_cons_succ, bnd_ok, bnd_bnd, noex_ok, opt_some, Option.map_some, Option.bind_some, List.getElem?_cons_zero, List.getElem?_cons_succ, ixD_0, ixD_1, ixD_2, cmpD_in, cmpD_inL, cmpD_not, cmpD_notL, cmpD_eq, cmpD_ne, cmpD_lt, cmpD_gt, cmpD_le, cmpD_ge, big0, big1, big2, big3, big4, big5, big6, big7, if_true, if_false, Nat.reduceAdd, Nat.reduceSub, Nat.reduceLT, ↓reduceIte, dec_lt, dec_le, dec_eq, eq_int, lst_of, Bool.false_eq_true, e, reduceCtorEq, decide_false, Bool.not_false, List.take_succ_cons, List.take_zero]
      have el : ledF U (F + 1) found = ledF U F (found ++ [y]) := by rw [ledF, hq]
      rw [el]
      exact ez
theorem m_led {k n : Nat} {U : List (Nat × Nat)} {first : Nat} {s : S} (hU : U.length ≤ 100) (hn : n ≤ 7) (hb : ∀ p ∈ U, p.1 < n ∧ p.2 < n) (h1 : first < n) : calD ds (k + 1) 32 [.lst (U.map dP), .int (first : Int)] s = .ok (.lst ((ledF U 998 [first]).map dN)) s := by
  obtain ⟨y4, y5, y6, e⟩ := led_run (k := k) (first := first) (s := s) hU hn hb 998 [first] .no .no .no (by simp) (by simp) (fun a ha => by rw [show a = first by simpa using ha]; exact h1) (by omega)
  rw [cal_at (d := d__law_led) rfl rfl]
  simp only [b__law_led] at e
  simp only [startR, exSs, exS, evE, evEs, evI, evO, evC, getR_0, getR_s, setR, tgR, wipeR, idx_tup, idx_lst, idx_dW0, idx_dW1, bi_len_t, bi_len_l, bi_all, bi_any, bi_min2, bi_max2, bi_tuple_l, bi_tuple_t, bi_list_l, bi_list_t, bi_int, bi_srt_l, bi_srt_t, bi_sset, bi_ssetT, chkB_bl, seq_t, seq_l, b_add, b_sub, ty_non, ty_bl, ty_int, ty_str, ty_tup, ty_lst, ty_dW, List.map_cons, List.map_nil, List.cons_append, List.nil_append, List.replicate_succ, List.replicate_zero, List.length_cons, List.length_nil, List.set_cons_zero, List.set_cons_succ, bnd_ok, bnd_bnd, noex_ok, opt_some, Option.map_some, Option.bind_some, List.getElem?_cons_zero, List.getElem?_cons_succ, ixD_0, ixD_1, ixD_2, cmpD_in, cmpD_inL, cmpD_not, cmpD_notL, cmpD_eq, cmpD_ne, cmpD_lt, cmpD_gt, cmpD_le, cmpD_ge, big0, big1, big2, big3, big4, big5, big6, big7, if_true, if_false, Nat.reduceAdd, Nat.reduceSub, Nat.reduceLT, ↓reduceIte, dec_lt, dec_le, dec_eq, eq_int, lst_of, Bool.false_eq_true, d__law_led, b__law_led, parR] at e ⊢
  rw [e]
  simp only [startR, exSs, exS, evE, evEs, evI, evO, evC, getR_0, getR_s, setR, tgR, wipeR, idx_tup, idx_lst, idx_dW0, idx_dW1, bi_len_t, bi_len_l, bi_all, bi_any, bi_min2, bi_max2, bi_tuple_l, bi_tuple_t, bi_list_l, bi_list_t, bi_int, bi_srt_l, bi_srt_t, bi_sset, bi_ssetT, chkB_bl, seq_t, seq_l, b_add, b_sub, ty_non, ty_bl, ty_int, ty_str, ty_tup, ty_lst, ty_dW, List.map_cons, List.map_nil, List.cons_append, List.nil_append, List.replicate_succ, List.replicate_zero, List.length_cons, List.length_nil, List.set_cons_zero, List.set_cons_succ, bnd_ok, bnd_bnd, noex_ok, opt_some, Option.map_some, Option.bind_some, List.getElem?_cons_zero, List.getElem?_cons_succ, ixD_0, ixD_1, ixD_2, cmpD_in, cmpD_inL, cmpD_not, cmpD_notL, cmpD_eq, cmpD_ne, cmpD_lt, cmpD_gt, cmpD_le, cmpD_ge, big0, big1, big2, big3, big4, big5, big6, big7, if_true, if_false, Nat.reduceAdd, Nat.reduceSub, Nat.reduceLT, ↓reduceIte, dec_lt, dec_le, dec_eq, eq_int, lst_of, Bool.false_eq_true]
theorem m_lholes {k n : Nat} {T : List (Nat × Nat)} {s : S} (G : GoodW n T) : calD ds (k + 2) 33 [dW n T] s = .ok (.lst ((lawL n T).map dR)) s := by
  have hT := G.len
  rw [cal_at (d := d__law_holes) rfl rfl]
  have hL := lots_len (List.range n)
  rw [List.length_range] at hL
  have h7 : 2 ^ n ≤ 2 ^ 7 := Nat.pow_le_pow_right (by omega) G.h7
  have lk := m_lots (k := k) (s := s) G.h0 G.h7
  simp only [startR, exSs, exS, evE, evEs, evI, evO, evC, getR_0, getR_s, setR, tgR, wipeR, idx_tup, idx_lst, idx_dW0, idx_dW1, bi_len_t, bi_len_l, bi_all, bi_any, bi_min2, bi_max2, bi_tuple_l, bi_tuple_t, bi_list_l, bi_list_t, bi_int, bi_srt_l, bi_srt_t, bi_sset, bi_ssetT, chkB_bl, seq_t, seq_l, b_add, b_sub, ty_non, ty_bl, ty_int, ty_str, ty_tup, ty_lst, ty_dW, List.map_cons, List.map_nil, List.cons_append, List.nil_append, List.replicate_succ, List.replicate_zero, List.length_cons, List.length_nil, List.set_cons_zero, List.set_cons_succ, bnd_ok, bnd_bnd, noex_ok, opt_some, Option.map_some, Option.bind_some, List.getElem?_cons_zero, List.getElem?_cons_succ, ixD_0, ixD_1, ixD_2, cmpD_in, cmpD_inL, cmpD_not, cmpD_notL, cmpD_eq, cmpD_ne, cmpD_lt, cmpD_gt, cmpD_le, cmpD_ge, big0, big1, big2, big3, big4, big5, big6, big7, if_true, if_false, Nat.reduceAdd, Nat.reduceSub, Nat.reduceLT, ↓reduceIte, dec_lt, dec_le, dec_eq, eq_int, lst_of, Bool.false_eq_true, d__law_holes, b__law_holes, setO, lk]
  refine for_run (g := dR) (P := fun done r => ∃ x y z, r = [Sl.v (dW n T), .own ((candR T done).map dQ), x, y, z, .no]) ⟨_, _, _, rfl⟩ (fun row done rest r e h => ?_) (fun r h => ?_)
  · obtain ⟨x, y, z, rfl⟩ := h
    have hm : row ∈ lotsF (List.range n) := by rw [e]; simp
    obtain ⟨hsub, hne⟩ := lots_mem.mp hm
    have hrl : row.length ≤ 7 := by have := hsub.length_le; rw [List.length_range] at this; have := G.h7; omega
    have hrn : ∀ a ∈ row, a < n := fun a ha => by simpa using hsub.subset ha
    have hd : done.length + 1 ≤ 127 := by have := congrArg List.length e; simp at this; omega
    have hcd : (candR T done).length ≤ done.length := by unfold candR; rw [List.length_map]; exact filt_len _ _
    have hU : (T.filter (inB row)).length ≤ 100 := Nat.le_trans (filt_len _ _) hT
    have hb : ∀ p ∈ T.filter (inB row), p.1 < n ∧ p.2 < n := fun p hp => by
      have := G.bd p (List.mem_filter.mp hp).1
      omega
    have c1 : candR T (done ++ [row]) = if okR T row then candR T done ++ [ledR T row] else candR T done := by
      unfold candR
      rw [List.filter_append, List.map_append]
      cases h : okR T row with
      | true => rw [List.filter_cons, h]; rfl
      | false => rw [List.filter_cons, h]; simp
    simp only [startR, exSs, exS, evE, evEs, evI, evO, evC, getR_0, getR_s, setR, tgR, wipeR, idx_tup, idx_lst, idx_dW0, idx_dW1, bi_len_t, bi_len_l, bi_all, bi_any, bi_min2, bi_max2, bi_tuple_l, bi_tuple_t, bi_list_l, bi_list_t, bi_int, bi_srt_l, bi_srt_t, bi_sset, bi_ssetT, chkB_bl, seq_t, seq_l, b_add, b_sub, ty_non, ty_bl, ty_int, ty_str, ty_tup, ty_lst, ty_dW, List.map_cons, List.map_nil, List.cons_append, List.nil_append, List.replicate_succ, List.replicate_zero, List.length_cons, List.length_nil, List.set_cons_zero, List.set_cons_succ, bnd_ok, bnd_bnd, noex_ok, opt_some, Option.map_some, Option.bind_some, List.getElem?_cons_zero, List.getElem?_cons_succ, ixD_0, ixD_1, ixD_2, cmpD_in, cmpD_inL, cmpD_not, cmpD_notL, cmpD_eq, cmpD_ne, cmpD_lt, cmpD_gt, cmpD_le, cmpD_ge, big0, big1, big2, big3, big4, big5, big6, big7, if_true, if_false, Nat.reduceAdd, Nat.reduceSub, Nat.reduceLT, ↓reduceIte, dec_lt, dec_le, dec_eq, eq_int, lst_of, Bool.false_eq_true, m_within hT, len_dR]
    by_cases h4 : 4 < row.length
    · have e4 : decide (4 < (row.length : Int)) = true := decide_eq_true (by omega)
      simp only [startR, exSs, exS, evE, evEs, evI, evO, evC, getR_0, getR_s, setR, tgR, wipeR, idx_tup, idx_lst, idx_dW0, idx_dW1, bi_len_t, bi_len_l, bi_all, bi_any, bi_min2, bi_max2, bi_tuple_l, bi_tuple_t, bi_list_l, bi_list_t, bi_int, bi_srt_l, bi_srt_t, bi_sset, bi_ssetT, chkB_bl, seq_t, seq_l, b_add, b_sub, ty_non, ty_bl, ty_int, ty_str, ty_tup, ty_lst, ty_dW, List.map_cons, List.map_nil, List.cons_append, List.nil_append, List.replicate_succ, List.replicate_zero, List.length_cons, List.length_nil, List.set_cons_zero, List.set_cons_succ, bnd_ok, bnd_bnd, noex_ok, opt_some, Option.map_some, Option.bind_some, List.getElem?_cons_zero, List.getElem?_cons_succ, ixD_0, ixD_1, ixD_2, cmpD_in, cmpD_inL, cmpD_not, cmpD_notL, cmpD_eq, cmpD_ne, cmpD_lt, cmpD_gt, cmpD_le, cmpD_ge, big0, big1, big2, big3, big4, big5, big6, big7, if_true, if_false, Nat.reduceAdd, Nat.reduceSub, Nat.reduceLT, ↓reduceIte, dec_lt, dec_le, dec_eq, eq_int, lst_of, Bool.false_eq_true, e4, m_degrees hU (show row.length ≤ 100 by omega), len_dR, b_rep (show row.length ≤ 100 by omega), eq_N]
      by_cases hg : (row.map fun x => ((T.filter (inB row)).filter (atB x)).length) = List.replicate row.length 2
      · have hh : headN row < n := by
          cases row with
          | nil => exact (hne rfl).elim
          | cons a r => exact hrn a (.head _)
        simp only [startR, exSs, exS, evE, evEs, evI, evO, evC, getR_0, getR_s, setR, tgR, wipeR, idx_tup, idx_lst, idx_dW0, idx_dW1, bi_len_t, bi_len_l, bi_all, bi_any, bi_min2, bi_max2, bi_tuple_l, bi_tuple_t, bi_list_l, bi_list_t, bi_int, bi_srt_l, bi_srt_t, bi_sset, bi_ssetT, chkB_bl, seq_t, seq_l, b_add, b_sub, ty_non, ty_bl, ty_int, ty_str, ty_tup, ty_lst, ty_dW, List.map_cons, List.map_nil, List.cons_append, List.nil_append, List.replicate_succ, List.replicate_zero, List.length_cons, List.length_nil, List.set_cons_zero, List.set_cons_succ, bnd_ok, bnd_bnd, noex_ok, opt_some, Option.map_some, Option.bind_some, List.getElem?_cons_zero, List.getElem?_cons_succ, ixD_0, ixD_1, ixD_2, cmpD_in, cmpD_inL, cmpD_not, cmpD_notL, cmpD_eq, cmpD_ne, cmpD_lt, cmpD_gt, cmpD_le, cmpD_ge, big0, big1, big2, big3, big4, big5, big6, big7, if_true, if_false, Nat.reduceAdd, Nat.reduceSub, Nat.reduceLT, ↓reduceIte, dec_lt, dec_le, dec_eq, eq_int, lst_of, Bool.false_eq_true, hg, decide_true, idx0_dR hne, m_led hU G.h7 hb hh, len_dR, List.length_map]
        by_cases hl : (ledF (T.filter (inB row)) 998 [headN row]).length = row.length
        · have el : decide (((ledF (T.filter (inB row)) 998 [headN row]).length : Int) = (row.length : Int)) = true := decide_eq_true (by omega)
          have ok : okR T row = true := by
            unfold okR ledR
            rw [decide_eq_true h4, decide_eq_true hg, decide_eq_true hl]; rfl
          have hlt : (candR T done).length < big := by unfold big; omega
          refine ⟨[Sl.v (dW n T), .own ((candR T (done ++ [row])).map dQ), .v (dR row), .v (.lst ((T.filter (inB row)).map dP)), .v (.lst ((ledF (T.filter (inB row)) 998 [headN row]).map dN)), .no], ?_, _, _, _, rfl⟩
          rw [c1, ok]
          have edq : dQ (ledR T row) = .tup [.int (row.length : Int), .tup ((ledF (T.filter (inB row)) 998 [headN row]).map dN)] := by
            unfold dQ ledR
            rw [hl]; rfl
          have el' : decide ((ledF (T.filter (inB row)) 998 [headN row]).length = row.length) = true := decide_eq_true hl
          simp only [startR, exSs, exS, evE, evEs, evI, evO, evC, getR_0, getR_s, setR, tgR, wipeR, idx_tup, idx_lst, idx_dW0, idx_dW1, bi_len_t, bi_len_l, bi_all, bi_any, bi_min2, bi_max2, bi_tuple_l, bi_tuple_t, bi_list_l, bi_list_t, bi_int, bi_srt_l, bi_srt_t, bi_sset, bi_ssetT, chkB_bl, seq_t, seq_l, b_add, b_sub, ty_non, ty_bl, ty_int, ty_str, ty_tup, ty_lst, ty_dW, List.map_cons, List.map_nil, List.cons_append, List.nil_append, List.replicate_succ, List.replicate_zero, List.length_cons, List.length_nil, List.set_cons_zero, List.set_cons_succ, bnd_ok, bnd_bnd, noex_ok, opt_some, Option.map_some, Option.bind_some, List.getElem?_cons_zero, List.getElem?_cons_succ, ixD_0, ixD_1, ixD_2, cmpD_in, cmpD_inL, cmpD_not, cmpD_notL, cmpD_eq, cmpD_ne, cmpD_lt, cmpD_gt, cmpD_le, cmpD_ge, big0, big1, big2, big3, big4, big5, big6, big7, if_true, if_false, Nat.reduceAdd, Nat.reduceSub, Nat.reduceLT, ↓reduceIte, dec_lt, dec_le, dec_eq, eq_int, lst_of, Bool.false_eq_true, el', len_dR, List.length_map, hlt, List.map_append, edq]
        · have ok : okR T row = false := by
            unfold okR ledR
            rw [decide_eq_false hl]; simp
          have el' : decide ((ledF (T.filter (inB row)) 998 [headN row]).length = row.length) = false := decide_eq_false hl
          refine ⟨[Sl.v (dW n T), .own ((candR T (done ++ [row])).map dQ), .v (dR row), .v (.lst ((T.filter (inB row)).map dP)), .v (.lst ((ledF (T.filter (inB row)) 998 [headN row]).map dN)), .no], ?_, _, _, _, rfl⟩
          rw [c1, ok]
          simp only [startR, exSs, exS, evE, evEs, evI, evO, evC, getR_0, getR_s, setR, tgR, wipeR, idx_tup, idx_lst, idx_dW0, idx_dW1, bi_len_t, bi_len_l, bi_all, bi_any, bi_min2, bi_max2, bi_tuple_l, bi_tuple_t, bi_list_l, bi_list_t, bi_int, bi_srt_l, bi_srt_t, bi_sset, bi_ssetT, chkB_bl, seq_t, seq_l, b_add, b_sub, ty_non, ty_bl, ty_int, ty_str, ty_tup, ty_lst, ty_dW, List.map_cons, List.map_nil, List.cons_append, List.nil_append, List.replicate_succ, List.replicate_zero, List.length_cons, List.length_nil, List.set_cons_zero, List.set_cons_succ, bnd_ok, bnd_bnd, noex_ok, opt_some, Option.map_some, Option.bind_some, List.getElem?_cons_zero, List.getElem?_cons_succ, ixD_0, ixD_1, ixD_2, cmpD_in, cmpD_inL, cmpD_not, cmpD_notL, cmpD_eq, cmpD_ne, cmpD_lt, cmpD_gt, cmpD_le, cmpD_ge, big0, big1, big2, big3, big4, big5, big6, big7, if_true, if_false, Nat.reduceAdd, Nat.reduceSub, Nat.reduceLT, ↓reduceIte, dec_lt, dec_le, dec_eq, eq_int, lst_of, Bool.false_eq_true, el']
      · have ok : okR T row = false := by
          unfold okR
          rw [decide_eq_false hg]; simp
        refine ⟨[Sl.v (dW n T), .own ((candR T (done ++ [row])).map dQ), .v (dR row), .v (.lst ((T.filter (inB row)).map dP)), z, .no], ?_, _, _, _, rfl⟩
        rw [c1, ok]
        simp only [startR, exSs, exS, evE, evEs, evI, evO, evC, getR_0, getR_s, setR, tgR, wipeR, idx_tup, idx_lst, idx_dW0, idx_dW1, bi_len_t, bi_len_l, bi_all, bi_any, bi_min2, bi_max2, bi_tuple_l, bi_tuple_t, bi_list_l, bi_list_t, bi_int, bi_srt_l, bi_srt_t, bi_sset, bi_ssetT, chkB_bl, seq_t, seq_l, b_add, b_sub, ty_non, ty_bl, ty_int, ty_str, ty_tup, ty_lst, ty_dW, List.map_cons, List.map_nil, List.cons_append, List.nil_append, List.replicate_succ, List.replicate_zero, List.length_cons, List.length_nil, List.set_cons_zero, List.set_cons_succ, bnd_ok, bnd_bnd, noex_ok, opt_some, Option.map_some, Option.bind_some, List.getElem?_cons_zero, List.getElem?_cons_succ, ixD_0, ixD_1, ixD_2, cmpD_in, cmpD_inL, cmpD_not, cmpD_notL, cmpD_eq, cmpD_ne, cmpD_lt, cmpD_gt, cmpD_le, cmpD_ge, big0, big1, big2, big3, big4, big5, big6, big7, if_true, if_false, Nat.reduceAdd, Nat.reduceSub, Nat.reduceLT, ↓reduceIte, dec_lt, dec_le, dec_eq, eq_int, lst_of, Bool.false_eq_true, hg, decide_false]
    · have e4 : decide (4 < (row.length : Int)) = false := decide_eq_false (by omega)
      have ok : okR T row = false := by
        unfold okR
        rw [decide_eq_false h4]; rfl
      refine ⟨[Sl.v (dW n T), .own ((candR T (done ++ [row])).map dQ), .v (dR row), .v (.lst ((T.filter (inB row)).map dP)), z, .no], ?_, _, _, _, rfl⟩
      rw [c1, ok]
      simp only [startR, exSs, exS, evE, evEs, evI, evO, evC, getR_0, getR_s, setR, tgR, wipeR, idx_tup, idx_lst, idx_dW0, idx_dW1, bi_len_t, bi_len_l, bi_all, bi_any, bi_min2, bi_max2, bi_tuple_l, bi_tuple_t, bi_list_l, bi_list_t, bi_int, bi_srt_l, bi_srt_t, bi_sset, bi_ssetT, chkB_bl, seq_t, seq_l, b_add, b_sub, ty_non, ty_bl, ty_int, ty_str, ty_tup, ty_lst, ty_dW, List.map_cons, List.map_nil, List.cons_append, List.nil_append, List.replicate_succ, List.replicate_zero, List.length_cons, List.length_nil, List.set_cons_zero, List.set_cons_succ, bnd_ok, bnd_bnd, noex_ok, opt_some, Option.map_some, Option.bind_some, List.getElem?_cons_zero, List.getElem?_cons_succ, ixD_0, ixD_1, ixD_2, cmpD_in, cmpD_inL, cmpD_not, cmpD_notL, cmpD_eq, cmpD_ne, cmpD_lt, cmpD_gt, cmpD_le, cmpD_ge, big0, big1, big2, big3, big4, big5, big6, big7, if_true, if_false, Nat.reduceAdd, Nat.reduceSub, Nat.reduceLT, ↓reduceIte, dec_lt, dec_le, dec_eq, eq_int, lst_of, Bool.false_eq_true, e4]
  · obtain ⟨x, y, z, rfl⟩ := h
    have hc : (candR T (lotsF (List.range n))).length ≤ 127 := by
      have : (candR T (lotsF (List.range n))).length ≤ (lotsF (List.range n)).length := by unfold candR; rw [List.length_map]; exact filt_len _ _
      omega
    have hc1 : (candR T (lotsF (List.range n))).length ≤ big := by unfold big; omega
    have hc2 : (srtQ (candR T (lotsF (List.range n)))).length ≤ big := by rw [srtQ_len]; exact hc1
    simp only [startR, exSs, exS, evE, evEs, evI, evO, evC, getR_0, getR_s, setR, tgR, wipeR, idx_tup, idx_lst, idx_dW0, idx_dW1, bi_len_t, bi_len_l, bi_all, bi_any, bi_min2, bi_max2, bi_tuple_l, bi_tuple_t, bi_list_l, bi_list_t, bi_int, bi_srt_l, bi_srt_t, bi_sset, bi_ssetT, chkB_bl, seq_t, seq_l, b_add, b_sub, ty_non, ty_bl, ty_int, ty_str, ty_tup, ty_lst, ty_dW, List.map_cons, List.map_nil, List.cons_append, List.nil_append, List.replicate_succ, List.replicate_zero, List.length_cons, List.length_nil, List.set_cons_zero, List.set_cons_succ, bnd_ok, bnd_bnd, noex_ok, opt_some, Option.map_some, Option.bind_some, List.getElem?_cons_zero, List.getElem?_cons_succ, ixD_0, ixD_1, ixD_2, cmpD_in, cmpD_inL, cmpD_not, cmpD_notL, cmpD_eq, cmpD_ne, cmpD_lt, cmpD_gt, cmpD_le, cmpD_ge, big0, big1, big2, big3, big4, big5, big6, big7, if_true, if_false, Nat.reduceAdd, Nat.reduceSub, Nat.reduceLT, ↓reduceIte, dec_lt, dec_le, dec_eq, eq_int, lst_of, Bool.false_eq_true, srt_dQs hc1, sortD_dQ, List.length_map, hc2]
    refine lc_runA (g := dQ) (h := dR) (fun r _ => by simp only [startR, exSs, exS, evE, evEs, evI, evO, evC, getR_0, getR_s, setR, tgR, wipeR, idx_tup, idx_lst, idx_dW0, idx_dW1, bi_len_t, bi_len_l, bi_all, bi_any, bi_min2, bi_max2, bi_tuple_l, bi_tuple_t, bi_list_l, bi_list_t, bi_int, bi_srt_l, bi_srt_t, bi_sset, bi_ssetT, chkB_bl, seq_t, seq_l, b_add, b_sub, ty_non, ty_bl, ty_int, ty_str, ty_tup, ty_lst, ty_dW, List.map_cons, List.map_nil, List.cons_append, List.nil_append, List.replicate_succ, List.replicate_zero, List.length_cons, List.length_nil, List.set_cons_zero, List.set_cons_succ, bnd_ok, bnd_bnd, noex_ok, opt_some, Option.map_some, Option.bind_some, List.getElem?_cons_zero, List.getElem?_cons_succ, ixD_0, ixD_1, ixD_2, cmpD_in, cmpD_inL, cmpD_not, cmpD_notL, cmpD_eq, cmpD_ne, cmpD_lt, cmpD_gt, cmpD_le, cmpD_ge, big0, big1, big2, big3, big4, big5, big6, big7, if_true, if_false, Nat.reduceAdd, Nat.reduceSub, Nat.reduceLT, ↓reduceIte, dec_lt, dec_le, dec_eq, eq_int, lst_of, Bool.false_eq_true, dQ, setRs]) ?_
    rfl
end Tw.K09
end
section
open PySem
namespace Tw.K09
theorem m_chosen {k many : Nat} {P : List Pr} {s : S} (hP : P.Pairwise ltP) (hl : P.length ≤ 15) (hm : many ≤ 100) : calD ds (k + 1) 14 [.tup (P.map dP), .int (many : Int)] s = .ok (.lst ((chooseF P many).map dPs)) s := by
  have hm' : many ≤ big := by unfold big; omega
  have hPb : P.length ≤ big := by unfold big; omega
  rw [cal_at (d := d_chosen) rfl rfl]
  simp only [startR, exSs, exS, evE, evEs, evI, evO, evC, getR_0, getR_s, setR, tgR, wipeR, idx_tup, idx_lst, idx_dW0, idx_dW1, bi_len_t, bi_len_l, bi_all, bi_any, bi_min2, bi_max2, bi_tuple_l, bi_tuple_t, bi_list_l, bi_list_t, bi_int, bi_srt_l, bi_srt_t, bi_sset, bi_ssetT, chkB_bl, seq_t, seq_l, b_add, b_sub, ty_non, ty_bl, ty_int, ty_str, ty_tup, ty_lst, ty_dW, List.map_cons, List.map_nil, List.cons_append, List.nil_append, List.replicate_succ, List.replicate_zero, List.length_cons, List.length_nil, List.set_cons_zero, List.set_cons_succ, bnd_ok, bnd_bnd, noex_ok, opt_some, Option.map_some, Option.bind_some, List.getElem?_cons_zero, List.getElem?_cons_succ, ixD_0, ixD_1, ixD_2, cmpD_in, cmpD_inL, cmpD_not, cmpD_notL, cmpD_eq, cmpD_ne, cmpD_lt, cmpD_gt, cmpD_le, cmpD_ge, big0, big1, big2, big3, big4, big5, big6, big7, if_true, if_false, Nat.reduceAdd, Nat.reduceSub, Nat.reduceLT, ↓reduceIte, dec_lt, dec_le, dec_eq, eq_int, lst_of, Bool.false_eq_true, d_chosen, b_chosen, range_int many hm']
  refine for_run (g := dN) (P := fun done r => ∃ x y z, r = [Sl.v (.tup (P.map dP)), .v (.int (many : Int)), .v (.lst ((chooseF P done.length).map dPs)), x, y, z, .no]) ⟨_, _, _, rfl⟩ (fun a done rest r e h => ?_) (fun r h => ?_)
  · obtain ⟨x, y, z, rfl⟩ := h
    have hd : done.length ≤ 100 := by
      have q : done.length ≤ (List.range many).length := by rw [e]; simp
      rw [List.length_range] at q; omega
    simp only [startR, exSs, exS, evE, evEs, evI, evO, evC, getR_0, getR_s, setR, tgR, wipeR, idx_tup, idx_lst, idx_dW0, idx_dW1, bi_len_t, bi_len_l, bi_all, bi_any, bi_min2, bi_max2, bi_tuple_l, bi_tuple_t, bi_list_l, bi_list_t, bi_int, bi_srt_l, bi_srt_t, bi_sset, bi_ssetT, chkB_bl, seq_t, seq_l, b_add, b_sub, ty_non, ty_bl, ty_int, ty_str, ty_tup, ty_lst, ty_dW, List.map_cons, List.map_nil, List.cons_append, List.nil_append, List.replicate_succ, List.replicate_zero, List.length_cons, List.length_nil, List.set_cons_zero, List.set_cons_succ, bnd_ok, bnd_bnd, noex_ok, opt_some, Option.map_some, Option.bind_some, List.getElem?_cons_zero, List.getElem?_cons_succ, ixD_0, ixD_1, ixD_2, cmpD_in, cmpD_inL, cmpD_not, cmpD_notL, cmpD_eq, cmpD_ne, cmpD_lt, cmpD_gt, cmpD_le, cmpD_ge, big0, big1, big2, big3, big4, big5, big6, big7, if_true, if_false, Nat.reduceAdd, Nat.reduceSub, Nat.reduceLT, ↓reduceIte, dec_lt, dec_le, dec_eq, eq_int, lst_of, Bool.false_eq_true]
    refine for_ex (g := dPs) (P := fun dn r => ∃ x, r = [Sl.v (.tup (P.map dP)), .v (.int (many : Int)), .v (.lst ((chooseF P done.length).map dPs)), .v (dN a), .v (.lst ((dn.flatMap (extP P)).map dPs)), x, .no]) ⟨z, rfl⟩ (fun row dn rs r e2 h => ?_) (fun r h => ?_)
    · obtain ⟨x, rfl⟩ := h
      have hrow : row ∈ chooseF P done.length := by rw [e2]; simp
      have hrl : row.length ≤ 1000 := by rw [(choose_rowlen hrow).1]; omega
      have hbd : (dn.flatMap (extP P)).length + (extP P row).length ≤ 32768 := by
        have q := choose_len hP hl (done.length + 1)
        have q : ((chooseF P done.length).flatMap (extP P)).length ≤ 32768 := q
        rw [e2, List.flatMap_append, List.flatMap_cons] at q
        simp only [List.length_append] at q
        omega
      simp only [startR, exSs, exS, evE, evEs, evI, evO, evC, getR_0, getR_s, setR, tgR, wipeR, idx_tup, idx_lst, idx_dW0, idx_dW1, bi_len_t, bi_len_l, bi_all, bi_any, bi_min2, bi_max2, bi_tuple_l, bi_tuple_t, bi_list_l, bi_list_t, bi_int, bi_srt_l, bi_srt_t, bi_sset, bi_ssetT, chkB_bl, seq_t, seq_l, b_add, b_sub, ty_non, ty_bl, ty_int, ty_str, ty_tup, ty_lst, ty_dW, List.map_cons, List.map_nil, List.cons_append, List.nil_append, List.replicate_succ, List.replicate_zero, List.length_cons, List.length_nil, List.set_cons_zero, List.set_cons_succ, bnd_ok, bnd_bnd, noex_ok, opt_some, Option.map_some, Option.bind_some, List.getElem?_cons_zero, List.getElem?_cons_succ, ixD_0, ixD_1, ixD_2, cmpD_in, cmpD_inL, cmpD_not, cmpD_notL, cmpD_eq, cmpD_ne, cmpD_lt, cmpD_gt, cmpD_le, cmpD_ge, big0, big1, big2, big3, big4, big5, big6, big7, if_true, if_false, Nat.reduceAdd, Nat.reduceSub, Nat.reduceLT, ↓reduceIte, dec_lt, dec_le, dec_eq, eq_int, lst_of, Bool.false_eq_true, List.length_map, hPb]
      refine ⟨[.v (.tup (P.map dP)), .v (.int (many : Int)), .v (.lst ((chooseF P done.length).map dPs)), .v (dN a), .v (.lst (((dn ++ [row]).flatMap (extP P)).map dPs)), .v (dPs row), .no], lc_run (g := dP) (p := extB row) (h := fun p => dPs (row ++ [p])) (fun p _ => ?_) ?_, _, rfl⟩
      · unfold extB
        by_cases hr : row = []
        · subst hr
          simp only [startR, exSs, exS, evE, evEs, evI, evO, evC, getR_0, getR_s, setR, tgR, wipeR, idx_tup, idx_lst, idx_dW0, idx_dW1, bi_len_t, bi_len_l, bi_all, bi_any, bi_min2, bi_max2, bi_tuple_l, bi_tuple_t, bi_list_l, bi_list_t, bi_int, bi_srt_l, bi_srt_t, bi_sset, bi_ssetT, chkB_bl, seq_t, seq_l, b_add, b_sub, ty_non, ty_bl, ty_int, ty_str, ty_tup, ty_lst, ty_dW, List.map_cons, List.map_nil, List.cons_append, List.nil_append, List.replicate_succ, List.replicate_zero, List.length_cons, List.length_nil, List.set_cons_zero, List.set_cons_succ, bnd_ok, bnd_bnd, noex_ok, opt_some, Option.map_some, Option.bind_some, List.getElem?_cons_zero, List.getElem?_cons_succ, ixD_0, ixD_1, ixD_2, cmpD_in, cmpD_inL, cmpD_not, cmpD_notL, cmpD_eq, cmpD_ne, cmpD_lt, cmpD_gt, cmpD_le, cmpD_ge, big0, big1, big2, big3, big4, big5, big6, big7, if_true, if_false, Nat.reduceAdd, Nat.reduceSub, Nat.reduceLT, ↓reduceIte, dec_lt, dec_le, dec_eq, eq_int, lst_of, Bool.false_eq_true, eq_dPs0, decide_true, add_dPs (show ([] : List Pr).length ≤ 1000 by simp), Bool.true_or]
        · cases hb : ltPb (lastP row) p with
          | true => simp only [startR, exSs, exS, evE, evEs, evI, evO, evC, getR_0, getR_s, setR, tgR, wipeR, idx_tup, idx_lst, idx_dW0, idx_dW1, bi_len_t, bi_len_l, bi_all, bi_any, bi_min2, bi_max2, bi_tuple_l, bi_tuple_t, bi_list_l, bi_list_t, bi_int, bi_srt_l, bi_srt_t, bi_sset, bi_ssetT, chkB_bl, seq_t, seq_l, b_add, b_sub, ty_non, ty_bl, ty_int, ty_str, ty_tup, ty_lst, ty_dW, List.map_cons, List.map_nil, List.cons_append, List.nil_append, List.replicate_succ, List.replicate_zero, List.length_cons, List.length_nil, List.set_cons_zero, List.set_cons_succ, bnd_ok, bnd_bnd, noex_ok, opt_some, Option.map_some, Option.bind_some, List.getElem?_cons_zero, List.getElem?_cons_succ, ixD_0, ixD_1, ixD_2, cmpD_in, cmpD_inL, cmpD_not, cmpD_notL, cmpD_eq, cmpD_ne, cmpD_lt, cmpD_gt, cmpD_le, cmpD_ge, big0, big1, big2, big3, big4, big5, big6, big7, if_true, if_false, Nat.reduceAdd, Nat.reduceSub, Nat.reduceLT, ↓reduceIte, dec_lt, dec_le, dec_eq, eq_int, lst_of, Bool.false_eq_true, eq_dPs0, hr, decide_false, last_dPs hr, cmp_gtP, hb, add_dPs hrl, Bool.false_or]
          | false => simp only [startR, exSs, exS, evE, evEs, evI, evO, evC, getR_0, getR_s, setR, tgR, wipeR, idx_tup, idx_lst, idx_dW0, idx_dW1, bi_len_t, bi_len_l, bi_all, bi_any, bi_min2, bi_max2, bi_tuple_l, bi_tuple_t, bi_list_l, bi_list_t, bi_int, bi_srt_l, bi_srt_t, bi_sset, bi_ssetT, chkB_bl, seq_t, seq_l, b_add, b_sub, ty_non, ty_bl, ty_int, ty_str, ty_tup, ty_lst, ty_dW, List.map_cons, List.map_nil, List.cons_append, List.nil_append, List.replicate_succ, List.replicate_zero, List.length_cons, List.length_nil, List.set_cons_zero, List.set_cons_succ, bnd_ok, bnd_bnd, noex_ok, opt_some, Option.map_some, Option.bind_some, List.getElem?_cons_zero, List.getElem?_cons_succ, ixD_0, ixD_1, ixD_2, cmpD_in, cmpD_inL, cmpD_not, cmpD_notL, cmpD_eq, cmpD_ne, cmpD_lt, cmpD_gt, cmpD_le, cmpD_ge, big0, big1, big2, big3, big4, big5, big6, big7, if_true, if_false, Nat.reduceAdd, Nat.reduceSub, Nat.reduceLT, ↓reduceIte, dec_lt, dec_le, dec_eq, eq_int, lst_of, Bool.false_eq_true, eq_dPs0, hr, decide_false, last_dPs hr, cmp_gtP, hb, Bool.false_or]
      · have hx : (extP P row).length = (P.filter (extB row)).length := by unfold extP; rw [List.length_map]
        rw [hx] at hbd
        rw [b_addL (by simp only [List.length_map]; unfold big; omega)]
        simp only [startR, exSs, exS, evE, evEs, evI, evO, evC, getR_0, getR_s, setR, tgR, wipeR, idx_tup, idx_lst, idx_dW0, idx_dW1, bi_len_t, bi_len_l, bi_all, bi_any, bi_min2, bi_max2, bi_tuple_l, bi_tuple_t, bi_list_l, bi_list_t, bi_int, bi_srt_l, bi_srt_t, bi_sset, bi_ssetT, chkB_bl, seq_t, seq_l, b_add, b_sub, ty_non, ty_bl, ty_int, ty_str, ty_tup, ty_lst, ty_dW, List.map_cons, List.map_nil, List.cons_append, List.nil_append, List.replicate_succ, List.replicate_zero, List.length_cons, List.length_nil, List.set_cons_zero, List.set_cons_succ, bnd_ok, bnd_bnd, noex_ok, opt_some, Option.map_some, Option.bind_some, List.getElem?_cons_zero, List.getElem?_cons_succ, ixD_0, ixD_1, ixD_2, cmpD_in, cmpD_inL, cmpD_not, cmpD_notL, cmpD_eq, cmpD_ne, cmpD_lt, cmpD_gt, cmpD_le, cmpD_ge, big0, big1, big2, big3, big4, big5, big6, big7, if_true, if_false, Nat.reduceAdd, Nat.reduceSub, Nat.reduceLT, ↓reduceIte, dec_lt, dec_le, dec_eq, eq_int, lst_of, Bool.false_eq_true, List.flatMap_append, List.flatMap_cons, List.flatMap_nil, List.append_nil, List.map_append]
        unfold extP
        rw [List.map_map]
        rfl
    · obtain ⟨x, rfl⟩ := h
      exact ⟨_, rfl, .v (dN a), _, x, by rw [List.length_append]; rfl⟩
  · obtain ⟨x, y, z, rfl⟩ := h
    simp only [startR, exSs, exS, evE, evEs, evI, evO, evC, getR_0, getR_s, setR, tgR, wipeR, idx_tup, idx_lst, idx_dW0, idx_dW1, bi_len_t, bi_len_l, bi_all, bi_any, bi_min2, bi_max2, bi_tuple_l, bi_tuple_t, bi_list_l, bi_list_t, bi_int, bi_srt_l, bi_srt_t, bi_sset, bi_ssetT, chkB_bl, seq_t, seq_l, b_add, b_sub, ty_non, ty_bl, ty_int, ty_str, ty_tup, ty_lst, ty_dW, List.map_cons, List.map_nil, List.cons_append, List.nil_append, List.replicate_succ, List.replicate_zero, List.length_cons, List.length_nil, List.set_cons_zero, List.set_cons_succ, bnd_ok, bnd_bnd, noex_ok, opt_some, Option.map_some, Option.bind_some, List.getElem?_cons_zero, List.getElem?_cons_succ, ixD_0, ixD_1, ixD_2, cmpD_in, cmpD_inL, cmpD_not, cmpD_notL, cmpD_eq, cmpD_ne, cmpD_lt, cmpD_gt, cmpD_le, cmpD_ge, big0, big1, big2, big3, big4, big5, big6, big7, if_true, if_false, Nat.reduceAdd, Nat.reduceSub, Nat.reduceLT, ↓reduceIte, dec_lt, dec_le, dec_eq, eq_int, lst_of, Bool.false_eq_true, List.length_range]
end Tw.K09
end
section
open PySem
namespace Tw.K09
theorem m_lots_of {k many : Nat} {P : List Pr} {s : S} (hP : P.Pairwise ltP) (hl : P.length ≤ 15) (hm : many ≤ 100) : calD ds (k + 1) 35 [.tup (P.map dP), .int (many : Int)] s = .ok (.lst ((chooseF P many).map dPs)) s := by
  have hm' : many ≤ big := by unfold big; omega
  have hPb : P.length ≤ big := by unfold big; omega
  rw [cal_at (d := d__law_lots_of) rfl rfl]
  simp only [startR, exSs, exS, evE, evEs, evI, evO, evC, getR_0, getR_s, setR, tgR, wipeR, idx_tup, idx_lst, idx_dW0, idx_dW1, bi_len_t, bi_len_l, bi_all, bi_any, bi_min2, bi_max2, bi_tuple_l, bi_tuple_t, bi_list_l, bi_list_t, bi_int, bi_srt_l, bi_srt_t, bi_sset, bi_ssetT, chkB_bl, seq_t, seq_l, b_add, b_sub, ty_non, ty_bl, ty_int, ty_str, ty_tup, ty_lst, ty_dW, List.map_cons, List.map_nil, List.cons_append, List.nil_append, List.replicate_succ, List.replicate_zero, List.length_cons, List.length_nil, List.set_cons_zero, List.set_cons_succ, bnd_ok, bnd_bnd, noex_ok, opt_some, Option.map_some, Option.bind_some, List.getElem?_cons_zero, List.getElem?_cons_succ, ixD_0, ixD_1, ixD_2, cmpD_in, cmpD_inL, cmpD_not, cmpD_notL, cmpD_eq, cmpD_ne, cmpD_lt, cmpD_gt, cmpD_le, cmpD_ge, big0, big1, big2, big3, big4, big5, big6, big7, if_true, if_false, Nat.reduceAdd, Nat.reduceSub, Nat.reduceLT, ↓reduceIte, dec_lt, dec_le, dec_eq, eq_int, lst_of, Bool.false_eq_true, d__law_lots_of, b__law_lots_of, range_int many hm']
  refine for_run (g := dN) (P := fun done r => ∃ x y z u, r = [Sl.v (.tup (P.map dP)), .v (.int (many : Int)), .v (.lst ((chooseF P done.length).map dPs)), x, y, z, u, .no]) ⟨_, _, _, _, rfl⟩ (fun a done rest r e h => ?_) (fun r h => ?_)
  · obtain ⟨x, y, z, u, rfl⟩ := h
    have hd : done.length ≤ 100 := by
      have q : done.length ≤ (List.range many).length := by rw [e]; simp
      rw [List.length_range] at q; omega
    simp only [startR, exSs, exS, evE, evEs, evI, evO, evC, getR_0, getR_s, setR, tgR, wipeR, idx_tup, idx_lst, idx_dW0, idx_dW1, bi_len_t, bi_len_l, bi_all, bi_any, bi_min2, bi_max2, bi_tuple_l, bi_tuple_t, bi_list_l, bi_list_t, bi_int, bi_srt_l, bi_srt_t, bi_sset, bi_ssetT, chkB_bl, seq_t, seq_l, b_add, b_sub, ty_non, ty_bl, ty_int, ty_str, ty_tup, ty_lst, ty_dW, List.map_cons, List.map_nil, List.cons_append, List.nil_append, List.replicate_succ, List.replicate_zero, List.length_cons, List.length_nil, List.set_cons_zero, List.set_cons_succ, bnd_ok, bnd_bnd, noex_ok, opt_some, Option.map_some, Option.bind_some, List.getElem?_cons_zero, List.getElem?_cons_succ, ixD_0, ixD_1, ixD_2, cmpD_in, cmpD_inL, cmpD_not, cmpD_notL, cmpD_eq, cmpD_ne, cmpD_lt, cmpD_gt, cmpD_le, cmpD_ge, big0, big1, big2, big3, big4, big5, big6, big7, if_true, if_false, Nat.reduceAdd, Nat.reduceSub, Nat.reduceLT, ↓reduceIte, dec_lt, dec_le, dec_eq, eq_int, lst_of, Bool.false_eq_true]
    refine for_ex (g := dPs) (P := fun dn r => ∃ x u, r = [Sl.v (.tup (P.map dP)), .v (.int (many : Int)), .v (.lst ((chooseF P done.length).map dPs)), .v (dN a), .v (.lst ((dn.flatMap (extP P)).map dPs)), x, u, .no]) ⟨z, u, rfl⟩ (fun row dn rs r e2 h => ?_) (fun r h => ?_)
    · obtain ⟨x, u, rfl⟩ := h
      have hrow : row ∈ chooseF P done.length := by rw [e2]; simp
      have hrl : row.length ≤ 1000 := by rw [(choose_rowlen hrow).1]; omega
      have hbd : (dn.flatMap (extP P)).length + (extP P row).length ≤ 32768 := by
        have q := choose_len hP hl (done.length + 1)
        have q : ((chooseF P done.length).flatMap (extP P)).length ≤ 32768 := q
        rw [e2, List.flatMap_append, List.flatMap_cons] at q
        simp only [List.length_append] at q
        omega
      have fin : binD .add (.lst ((dn.flatMap (extP P)).map dPs)) (.lst ((P.filter (extB row)).map fun p => dPs (row ++ [p]))) = some (.lst (((dn ++ [row]).flatMap (extP P)).map dPs)) := by
        have hx : (extP P row).length = (P.filter (extB row)).length := by unfold extP; rw [List.length_map]
        rw [hx] at hbd
        rw [b_addL (by simp only [List.length_map]; unfold big; omega)]
        simp only [List.flatMap_append, List.flatMap_cons, List.flatMap_nil, List.append_nil, List.map_append]
        unfold extP
        rw [List.map_map]
        rfl
      by_cases hr : row = []
      · subst hr
        simp only [startR, exSs, exS, evE, evEs, evI, evO, evC, getR_0, getR_s, setR, tgR, wipeR, idx_tup, idx_lst, idx_dW0, idx_dW1, bi_len_t, bi_len_l, bi_all, bi_any, bi_min2, bi_max2, bi_tuple_l, bi_tuple_t, bi_list_l, bi_list_t, bi_int, bi_srt_l, bi_srt_t, bi_sset, bi_ssetT, chkB_bl, seq_t, seq_l, b_add, b_sub, ty_non, ty_bl, ty_int, ty_str, ty_tup, ty_lst, ty_dW, List.map_cons, List.map_nil, List.cons_append, List.nil_append, List.replicate_succ, List.replicate_zero, List.length_cons, List.length_nil, List.set_cons_zero, List.set_cons_succ, bnd_ok, bnd_bnd, noex_ok, opt_some, Option.map_some, Option.bind_some, List.getElem?_cons_zero, List.getElem?_cons_succ, ixD_0, ixD_1, ixD_2, cmpD_in, cmpD_inL, cmpD_not, cmpD_notL, cmpD_eq, cmpD_ne, cmpD_lt, cmpD_gt, cmpD_le, cmpD_ge, big0, big1, big2, big3, big4, big5, big6, big7, if_true, if_false, Nat.reduceAdd, Nat.reduceSub, Nat.reduceLT, ↓reduceIte, dec_lt, dec_le, dec_eq, eq_int, lst_of, Bool.false_eq_true, eq_dPs0, decide_true, Bool.not_true, List.length_map, hPb]
        refine ⟨[.v (.tup (P.map dP)), .v (.int (many : Int)), .v (.lst ((chooseF P done.length).map dPs)), .v (dN a), .v (.lst (((dn ++ [[]]).flatMap (extP P)).map dPs)), .v (dPs []), .v (.tup [.int (-1), .int (-1)]), .no], lc_run (g := dP) (p := extB []) (h := fun p => dPs ([] ++ [p])) (fun p _ => ?_) ?_, _, _, rfl⟩
        · have : extB [] p = true := rfl
          simp only [startR, exSs, exS, evE, evEs, evI, evO, evC, getR_0, getR_s, setR, tgR, wipeR, idx_tup, idx_lst, idx_dW0, idx_dW1, bi_len_t, bi_len_l, bi_all, bi_any, bi_min2, bi_max2, bi_tuple_l, bi_tuple_t, bi_list_l, bi_list_t, bi_int, bi_srt_l, bi_srt_t, bi_sset, bi_ssetT, chkB_bl, seq_t, seq_l, b_add, b_sub, ty_non, ty_bl, ty_int, ty_str, ty_tup, ty_lst, ty_dW, List.map_cons, List.map_nil, List.cons_append, List.nil_append, List.replicate_succ, List.replicate_zero, List.length_cons, List.length_nil, List.set_cons_zero, List.set_cons_succ, bnd_ok, bnd_bnd, noex_ok, opt_some, Option.map_some, Option.bind_some, List.getElem?_cons_zero, List.getElem?_cons_succ, ixD_0, ixD_1, ixD_2, cmpD_in, cmpD_inL, cmpD_not, cmpD_notL, cmpD_eq, cmpD_ne, cmpD_lt, cmpD_gt, cmpD_le, cmpD_ge, big0, big1, big2, big3, big4, big5, big6, big7, if_true, if_false, Nat.reduceAdd, Nat.reduceSub, Nat.reduceLT, ↓reduceIte, dec_lt, dec_le, dec_eq, eq_int, lst_of, Bool.false_eq_true, cmp_gtM, this, add_dPs (show ([] : List Pr).length ≤ 1000 by simp)]
        · rw [fin]
          simp only [startR, exSs, exS, evE, evEs, evI, evO, evC, getR_0, getR_s, setR, tgR, wipeR, idx_tup, idx_lst, idx_dW0, idx_dW1, bi_len_t, bi_len_l, bi_all, bi_any, bi_min2, bi_max2, bi_tuple_l, bi_tuple_t, bi_list_l, bi_list_t, bi_int, bi_srt_l, bi_srt_t, bi_sset, bi_ssetT, chkB_bl, seq_t, seq_l, b_add, b_sub, ty_non, ty_bl, ty_int, ty_str, ty_tup, ty_lst, ty_dW, List.map_cons, List.map_nil, List.cons_append, List.nil_append, List.replicate_succ, List.replicate_zero, List.length_cons, List.length_nil, List.set_cons_zero, List.set_cons_succ, bnd_ok, bnd_bnd, noex_ok, opt_some, Option.map_some, Option.bind_some, List.getElem?_cons_zero, List.getElem?_cons_succ, ixD_0, ixD_1, ixD_2, cmpD_in, cmpD_inL, cmpD_not, cmpD_notL, cmpD_eq, cmpD_ne, cmpD_lt, cmpD_gt, cmpD_le, cmpD_ge, big0, big1, big2, big3, big4, big5, big6, big7, if_true, if_false, Nat.reduceAdd, Nat.reduceSub, Nat.reduceLT, ↓reduceIte, dec_lt, dec_le, dec_eq, eq_int, lst_of, Bool.false_eq_true]
      · simp only [startR, exSs, exS, evE, evEs, evI, evO, evC, getR_0, getR_s, setR, tgR, wipeR, idx_tup, idx_lst, idx_dW0, idx_dW1, bi_len_t, bi_len_l, bi_all, bi_any, bi_min2, bi_max2, bi_tuple_l, bi_tuple_t, bi_list_l, bi_list_t, bi_int, bi_srt_l, bi_srt_t, bi_sset, bi_ssetT, chkB_bl, seq_t, seq_l, b_add, b_sub, ty_non, ty_bl, ty_int, ty_str, ty_tup, ty_lst, ty_dW, List.map_cons, List.map_nil, List.cons_append, List.nil_append, List.replicate_succ, List.replicate_zero, List.length_cons, List.length_nil, List.set_cons_zero, List.set_cons_succ, bnd_ok, bnd_bnd, noex_ok, opt_some, Option.map_some, Option.bind_some, List.getElem?_cons_zero, List.getElem?_cons_succ, ixD_0, ixD_1, ixD_2, cmpD_in, cmpD_inL, cmpD_not, cmpD_notL, cmpD_eq, cmpD_ne, cmpD_lt, cmpD_gt, cmpD_le, cmpD_ge, big0, big1, big2, big3, big4, big5, big6, big7, if_true, if_false, Nat.reduceAdd, Nat.reduceSub, Nat.reduceLT, ↓reduceIte, dec_lt, dec_le, dec_eq, eq_int, lst_of, Bool.false_eq_true, eq_dPs0, hr, decide_false, Bool.not_false, last_dPs hr, List.length_map, hPb]
        refine ⟨[.v (.tup (P.map dP)), .v (.int (many : Int)), .v (.lst ((chooseF P done.length).map dPs)), .v (dN a), .v (.lst (((dn ++ [row]).flatMap (extP P)).map dPs)), .v (dPs row), .v (dP (lastP row)), .no], lc_run (g := dP) (p := extB row) (h := fun p => dPs (row ++ [p])) (fun p _ => ?_) ?_, _, _, rfl⟩
        · have : extB row p = ltPb (lastP row) p := by unfold extB; rw [decide_eq_false hr, Bool.false_or]
          rw [this]
          cases hb : ltPb (lastP row) p with
          | true => simp only [startR, exSs, exS, evE, evEs, evI, evO, evC, getR_0, getR_s, setR, tgR, wipeR, idx_tup, idx_lst, idx_dW0, idx_dW1, bi_len_t, bi_len_l, bi_all, bi_any, bi_min2, bi_max2, bi_tuple_l, bi_tuple_t, bi_list_l, bi_list_t, bi_int, bi_srt_l, bi_srt_t, bi_sset, bi_ssetT, chkB_bl, seq_t, seq_l, b_add, b_sub, ty_non, ty_bl, ty_int, ty_str, ty_tup, ty_lst, ty_dW, List.map_cons, List.map_nil, List.cons_append, List.nil_append, List.replicate_succ, List.replicate_zero, List.length_cons, List.length_nil, List.set_cons_zero, List.set_cons_succ, bnd_ok, bnd_bnd, noex_ok, opt_some, Option.map_some, Option.bind_some, List.getElem?_cons_zero, List.getElem?_cons_succ, ixD_0, ixD_1, ixD_2, cmpD_in, cmpD_inL, cmpD_not, cmpD_notL, cmpD_eq, cmpD_ne, cmpD_lt, cmpD_gt, cmpD_le, cmpD_ge, big0, big1, big2, big3, big4, big5, big6, big7, if_true, if_false, Nat.reduceAdd, Nat.reduceSub, Nat.reduceLT, ↓reduceIte, dec_lt, dec_le, dec_eq, eq_int, lst_of, Bool.false_eq_true, cmp_gtP, hb, add_dPs hrl]
          | false => simp only [startR, exSs, exS, evE, evEs, evI, evO, evC, getR_0, getR_s, setR, tgR, wipeR, idx_tup, idx_lst, idx_dW0, idx_dW1, bi_len_t, bi_len_l, bi_all, bi_any, bi_min2, bi_max2, bi_tuple_l, bi_tuple_t, bi_list_l, bi_list_t, bi_int, bi_srt_l, bi_srt_t, bi_sset, bi_ssetT, chkB_bl, seq_t, seq_l, b_add, b_sub, ty_non, ty_bl, ty_int, ty_str, ty_tup, ty_lst, ty_dW, List.map_cons, List.map_nil, List.cons_append, List.nil_append, List.replicate_succ, List.replicate_zero, List.length_cons, List.length_nil, List.set_cons_zero, List.set_cons_succ, bnd_ok, bnd_bnd, noex_ok, opt_some, Option.map_some, Option.bind_some, List.getElem?_cons_zero, List.getElem?_cons_succ, ixD_0, ixD_1, ixD_2, cmpD_in, cmpD_inL, cmpD_not, cmpD_notL, cmpD_eq, cmpD_ne, cmpD_lt, cmpD_gt, cmpD_le, cmpD_ge, big0, big1, big2, big3, big4, big5, big6, big7, if_true, if_false, Nat.reduceAdd, Nat.reduceSub, Nat.reduceLT, ↓reduceIte, dec_lt, dec_le, dec_eq, eq_int, lst_of, Bool.false_eq_true, cmp_gtP, hb]
        · rw [fin]
          simp only [startR, exSs, exS, evE, evEs, evI, evO, evC, getR_0, getR_s, setR, tgR, wipeR, idx_tup, idx_lst, idx_dW0, idx_dW1, bi_len_t, bi_len_l, bi_all, bi_any, bi_min2, bi_max2, bi_tuple_l, bi_tuple_t, bi_list_l, bi_list_t, bi_int, bi_srt_l, bi_srt_t, bi_sset, bi_ssetT, chkB_bl, seq_t, seq_l, b_add, b_sub, ty_non, ty_bl, ty_int, ty_str, ty_tup, ty_lst, ty_dW, List.map_cons, List.map_nil, List.cons_append, List.nil_append, List.replicate_succ, List.replicate_zero, List.length_cons, List.length_nil, List.set_cons_zero, List.set_cons_succ, bnd_ok, bnd_bnd, noex_ok, opt_some, Option.map_some, Option.bind_some, List.getElem?_cons_zero, List.getElem?_cons_succ, ixD_0, ixD_1, ixD_2, cmpD_in, cmpD_inL, cmpD_not, cmpD_notL, cmpD_eq, cmpD_ne, cmpD_lt, cmpD_gt, cmpD_le, cmpD_ge, big0, big1, big2, big3, big4, big5, big6, big7, if_true, if_false, Nat.reduceAdd, Nat.reduceSub, Nat.reduceLT, ↓reduceIte, dec_lt, dec_le, dec_eq, eq_int, lst_of, Bool.false_eq_true]
    · obtain ⟨x, u, rfl⟩ := h
      exact ⟨_, rfl, .v (dN a), _, x, u, by rw [List.length_append]; rfl⟩
  · obtain ⟨x, y, z, u, rfl⟩ := h
    simp only [startR, exSs, exS, evE, evEs, evI, evO, evC, getR_0, getR_s, setR, tgR, wipeR, idx_tup, idx_lst, idx_dW0, idx_dW1, bi_len_t, bi_len_l, bi_all, bi_any, bi_min2, bi_max2, bi_tuple_l, bi_tuple_t, bi_list_l, bi_list_t, bi_int, bi_srt_l, bi_srt_t, bi_sset, bi_ssetT, chkB_bl, seq_t, seq_l, b_add, b_sub, ty_non, ty_bl, ty_int, ty_str, ty_tup, ty_lst, ty_dW, List.map_cons, List.map_nil, List.cons_append, List.nil_append, List.replicate_succ, List.replicate_zero, List.length_cons, List.length_nil, List.set_cons_zero, List.set_cons_succ, bnd_ok, bnd_bnd, noex_ok, opt_some, Option.map_some, Option.bind_some, List.getElem?_cons_zero, List.getElem?_cons_succ, ixD_0, ixD_1, ixD_2, cmpD_in, cmpD_inL, cmpD_not, cmpD_notL, cmpD_eq, cmpD_ne, cmpD_lt, cmpD_gt, cmpD_le, cmpD_ge, big0, big1, big2, big3, big4, big5, big6, big7, if_true, if_false, Nat.reduceAdd, Nat.reduceSub, Nat.reduceLT, ↓reduceIte, dec_lt, dec_le, dec_eq, eq_int, lst_of, Bool.false_eq_true, List.length_range]
end Tw.K09
end
section
open PySem
namespace Tw.K09
theorem calm_law (hm : ∀ n T, GoodW n T → holesL n T = lawL n T) {n : Nat} {T : List Pr} (G : GoodW n T) : calmB n T = (decide (lawL n T = []) && decide (lawL n (cT n T) = [])) := by
  unfold calmB
  rw [hm n T G, hm n _ (good_cT G)]
  cases lawL n T with
  | cons r l => rfl
  | nil =>
    cases lawL n (cT n T) with
    | cons r l => rfl
    | nil => rfl
theorem m_lcalm (hm : ∀ n T, GoodW n T → holesL n T = lawL n T) {k n : Nat} {T : List Pr} {s : S} (G : GoodW n T) : calD ds (k + 3) 34 [dW n T] s = .ok (.bl (calmB n T)) s := by
  rw [cal_at (d := d__law_calm) rfl rfl, calm_law hm G]
  simp only [startR, exSs, exS, evE, evEs, evI, evO, evC, getR_0, getR_s, setR, tgR, wipeR, idx_tup, idx_lst, idx_dW0, idx_dW1, bi_len_t, bi_len_l, bi_all, bi_any, bi_min2, bi_max2, bi_tuple_l, bi_tuple_t, bi_list_l, bi_list_t, bi_int, bi_srt_l, bi_srt_t, bi_sset, bi_ssetT, chkB_bl, seq_t, seq_l, b_add, b_sub, ty_non, ty_bl, ty_int, ty_str, ty_tup, ty_lst, ty_dW, List.map_cons, List.map_nil, List.cons_append, List.nil_append, List.replicate_succ, List.replicate_zero, List.length_cons, List.length_nil, List.set_cons_zero, List.set_cons_succ, bnd_ok, bnd_bnd, noex_ok, opt_some, Option.map_some, Option.bind_some, List.getElem?_cons_zero, List.getElem?_cons_succ, ixD_0, ixD_1, ixD_2, cmpD_in, cmpD_inL, cmpD_not, cmpD_notL, cmpD_eq, cmpD_ne, cmpD_lt, cmpD_gt, cmpD_le, cmpD_ge, big0, big1, big2, big3, big4, big5, big6, big7, if_true, if_false, Nat.reduceAdd, Nat.reduceSub, Nat.reduceLT, ↓reduceIte, dec_lt, dec_le, dec_eq, eq_int, lst_of, Bool.false_eq_true, d__law_calm, b__law_calm, m_lholes G, m_lagainst G.h7, m_lholes (good_cT G), eq_nilR]
  by_cases h : lawL n T = []
  · simp only [h, decide_true, startR, exSs, exS, evE, evEs, evI, evO, evC, getR_0, getR_s, setR, tgR, wipeR, idx_tup, idx_lst, idx_dW0, idx_dW1, bi_len_t, bi_len_l, bi_all, bi_any, bi_min2, bi_max2, bi_tuple_l, bi_tuple_t, bi_list_l, bi_list_t, bi_int, bi_srt_l, bi_srt_t, bi_sset, bi_ssetT, chkB_bl, seq_t, seq_l, b_add, b_sub, ty_non, ty_bl, ty_int, ty_str, ty_tup, ty_lst, ty_dW, List.map_cons, List.map_nil, List.cons_append, List.nil_append, List.replicate_succ, List.replicate_zero, List.length_cons, List.length_nil, List.set_cons_zero, List.set_cons_succ, bnd_ok, bnd_bnd, noex_ok, opt_some, Option.map_some, Option.bind_some, List.getElem?_cons_zero, List.getElem?_cons_succ, ixD_0, ixD_1, ixD_2, cmpD_in, cmpD_inL, cmpD_not, cmpD_notL, cmpD_eq, cmpD_ne, cmpD_lt, cmpD_gt, cmpD_le, cmpD_ge, big0, big1, big2, big3, big4, big5, big6, big7, if_true, if_false, Nat.reduceAdd, Nat.reduceSub, Nat.reduceLT, ↓reduceIte, dec_lt, dec_le, dec_eq, eq_int, lst_of, Bool.false_eq_true, Bool.true_and]
  · simp only [h, decide_false, startR, exSs, exS, evE, evEs, evI, evO, evC, getR_0, getR_s, setR, tgR, wipeR, idx_tup, idx_lst, idx_dW0, idx_dW1, bi_len_t, bi_len_l, bi_all, bi_any, bi_min2, bi_max2, bi_tuple_l, bi_tuple_t, bi_list_l, bi_list_t, bi_int, bi_srt_l, bi_srt_t, bi_sset, bi_ssetT, chkB_bl, seq_t, seq_l, b_add, b_sub, ty_non, ty_bl, ty_int, ty_str, ty_tup, ty_lst, ty_dW, List.map_cons, List.map_nil, List.cons_append, List.nil_append, List.replicate_succ, List.replicate_zero, List.length_cons, List.length_nil, List.set_cons_zero, List.set_cons_succ, bnd_ok, bnd_bnd, noex_ok, opt_some, Option.map_some, Option.bind_some, List.getElem?_cons_zero, List.getElem?_cons_succ, ixD_0, ixD_1, ixD_2, cmpD_in, cmpD_inL, cmpD_not, cmpD_notL, cmpD_eq, cmpD_ne, cmpD_lt, cmpD_gt, cmpD_le, cmpD_ge, big0, big1, big2, big3, big4, big5, big6, big7, if_true, if_false, Nat.reduceAdd, Nat.reduceSub, Nat.reduceLT, ↓reduceIte, dec_lt, dec_le, dec_eq, eq_int, lst_of, Bool.false_eq_true, Bool.false_and]
theorem m_without {k n : Nat} {T row : List Pr} {s : S} (hT : T.length ≤ 100) : calD ds (k + 1) 16 [dW n T, dPs row] s = .ok (dW n (T.filter fun p => decide (p ∉ row))) s := by
  have hT' : T.length ≤ big := by unfold big; omega
  rw [cal_at (d := d_without_ties) rfl rfl]
  simp only [startR, exSs, exS, evE, evEs, evI, evO, evC, getR_0, getR_s, setR, tgR, wipeR, idx_tup, idx_lst, idx_dW0, idx_dW1, bi_len_t, bi_len_l, bi_all, bi_any, bi_min2, bi_max2, bi_tuple_l, bi_tuple_t, bi_list_l, bi_list_t, bi_int, bi_srt_l, bi_srt_t, bi_sset, bi_ssetT, chkB_bl, seq_t, seq_l, b_add, b_sub, ty_non, ty_bl, ty_int, ty_str, ty_tup, ty_lst, ty_dW, List.map_cons, List.map_nil, List.cons_append, List.nil_append, List.replicate_succ, List.replicate_zero, List.length_cons, List.length_nil, List.set_cons_zero, List.set_cons_succ, bnd_ok, bnd_bnd, noex_ok, opt_some, Option.map_some, Option.bind_some, List.getElem?_cons_zero, List.getElem?_cons_succ, ixD_0, ixD_1, ixD_2, cmpD_in, cmpD_inL, cmpD_not, cmpD_notL, cmpD_eq, cmpD_ne, cmpD_lt, cmpD_gt, cmpD_le, cmpD_ge, big0, big1, big2, big3, big4, big5, big6, big7, if_true, if_false, Nat.reduceAdd, Nat.reduceSub, Nat.reduceLT, ↓reduceIte, dec_lt, dec_le, dec_eq, eq_int, lst_of, Bool.false_eq_true, d_without_ties, b_without_ties, List.length_map, hT']
  refine lc_run (g := dP) (p := fun p => decide (p ∉ row)) (h := dP) (fun p _ => ?_) ?_
  · simp only [startR, exSs, exS, evE, evEs, evI, evO, evC, getR_0, getR_s, setR, tgR, wipeR, idx_tup, idx_lst, idx_dW0, idx_dW1, bi_len_t, bi_len_l, bi_all, bi_any, bi_min2, bi_max2, bi_tuple_l, bi_tuple_t, bi_list_l, bi_list_t, bi_int, bi_srt_l, bi_srt_t, bi_sset, bi_ssetT, chkB_bl, seq_t, seq_l, b_add, b_sub, ty_non, ty_bl, ty_int, ty_str, ty_tup, ty_lst, ty_dW, List.map_cons, List.map_nil, List.cons_append, List.nil_append, List.replicate_succ, List.replicate_zero, List.length_cons, List.length_nil, List.set_cons_zero, List.set_cons_succ, bnd_ok, bnd_bnd, noex_ok, opt_some, Option.map_some, Option.bind_some, List.getElem?_cons_zero, List.getElem?_cons_succ, ixD_0, ixD_1, ixD_2, cmpD_in, cmpD_inL, cmpD_not, cmpD_notL, cmpD_eq, cmpD_ne, cmpD_lt, cmpD_gt, cmpD_le, cmpD_ge, big0, big1, big2, big3, big4, big5, big6, big7, if_true, if_false, Nat.reduceAdd, Nat.reduceSub, Nat.reduceLT, ↓reduceIte, dec_lt, dec_le, dec_eq, eq_int, lst_of, Bool.false_eq_true, not_dPs]
    by_cases h : p ∈ row <;> simp [h]
  · rfl
theorem m_with {k n : Nat} {T row : List Pr} {s : S} (hn : n ≤ 7) (h : ∀ p ∈ T ++ row, p.1 < p.2 ∧ p.2 < n) (hl : (T ++ row).length < 64) : calD ds (k + 1) 15 [dW n T, dPs row] s = .ok (dW n (uT n (T ++ row))) s := by
  rw [cal_at (d := d_with_ties) rfl rfl]
  rw [List.length_append] at hl
  simp only [startR, exSs, exS, evE, evEs, evI, evO, evC, getR_0, getR_s, setR, tgR, wipeR, idx_tup, idx_lst, idx_dW0, idx_dW1, bi_len_t, bi_len_l, bi_all, bi_any, bi_min2, bi_max2, bi_tuple_l, bi_tuple_t, bi_list_l, bi_list_t, bi_int, bi_srt_l, bi_srt_t, bi_sset, bi_ssetT, chkB_bl, seq_t, seq_l, b_add, b_sub, ty_non, ty_bl, ty_int, ty_str, ty_tup, ty_lst, ty_dW, List.map_cons, List.map_nil, List.cons_append, List.nil_append, List.replicate_succ, List.replicate_zero, List.length_cons, List.length_nil, List.set_cons_zero, List.set_cons_succ, bnd_ok, bnd_bnd, noex_ok, opt_some, Option.map_some, Option.bind_some, List.getElem?_cons_zero, List.getElem?_cons_succ, ixD_0, ixD_1, ixD_2, cmpD_in, cmpD_inL, cmpD_not, cmpD_notL, cmpD_eq, cmpD_ne, cmpD_lt, cmpD_gt, cmpD_le, cmpD_ge, big0, big1, big2, big3, big4, big5, big6, big7, if_true, if_false, Nat.reduceAdd, Nat.reduceSub, Nat.reduceLT, ↓reduceIte, dec_lt, dec_le, dec_eq, eq_int, lst_of, Bool.false_eq_true, d_with_ties, b_with_ties, addT_dPs (show T.length + row.length ≤ 1000 by omega), sset_uT hn h (by rw [List.length_append]; exact hl)]
  rfl
theorem m_fc {k n f : Nat} {T P : List Pr} {good : List Pr → Bool} {s : S} (h0 : 1 ≤ n) (hn : n ≤ 7) (hP : P.Pairwise ltP) (hl : P.length ≤ 15)
    (hf : ∀ row, (∀ p ∈ row, p ∈ P) → row.length ≤ 15 → ∃ T', (∀ s, calD ds (k + 6) f [dW n T, dPs row] s = .ok (dW n T') s) ∧ calmB n T' = good row) :
    calD ds (k + 7) 17 [dW n T, .tup (P.map dP), .fn f] s = .ok ((firstD' P good).getD .non) s := by
  have r1 : rangeD [.int ((P.length : Int) + 1)] = some ((List.range (P.length + 1)).map dN) := by
    have z := range_int (P.length + 1) (by unfold big; omega)
    rw [show ((P.length + 1 : Nat) : Int) = (P.length : Int) + 1 by omega] at z
    exact z
  rw [cal_at (d := d_first_calm) rfl rfl]
  simp only [startR, exSs, exS, evE, evEs, evI, evO, evC, getR_0, getR_s, setR, tgR, wipeR, idx_tup, idx_lst, idx_dW0, idx_dW1, bi_len_t, bi_len_l, bi_all, bi_any, bi_min2, bi_max2, bi_tuple_l, bi_tuple_t, bi_list_l, bi_list_t, bi_int, bi_srt_l, bi_srt_t, bi_sset, bi_ssetT, chkB_bl, seq_t, seq_l, b_add, b_sub, ty_non, ty_bl, ty_int, ty_str, ty_tup, ty_lst, ty_dW, List.map_cons, List.map_nil, List.cons_append, List.nil_append, List.replicate_succ, List.replicate_zero, List.length_cons, List.length_nil, List.set_cons_zero, List.set_cons_succ, bnd_ok, bnd_bnd, noex_ok, opt_some, Option.map_some, Option.bind_some, List.getElem?_cons_zero, List.getElem?_cons_succ, ixD_0, ixD_1, ixD_2, cmpD_in, cmpD_inL, cmpD_not, cmpD_notL, cmpD_eq, cmpD_ne, cmpD_lt, cmpD_gt, cmpD_le, cmpD_ge, big0, big1, big2, big3, big4, big5, big6, big7, if_true, if_false, Nat.reduceAdd, Nat.reduceSub, Nat.reduceLT, ↓reduceIte, dec_lt, dec_le, dec_eq, eq_int, lst_of, Bool.false_eq_true, d_first_calm, b_first_calm, List.length_map, r1]
  refine for_findG (G := fun o => o = .ok ((firstD' P good).getD .non) s) (g := dN) (o := fun many => (chooseF P many).findSome? (goodD good)) (P := fun r => ∃ x y, r = [Sl.v (dW n T), .v (.tup (P.map dP)), .v (.fn f), x, y]) ⟨_, _, rfl⟩ (fun many hmany r h => ?_) (fun v hv => ?_) (fun hv r h => ?_)
  · obtain ⟨x, y, rfl⟩ := h
    have hmany : many < P.length + 1 := List.mem_range.mp hmany
    have hc := fun s => m_chosen (k := k + 5) (s := s) hP hl (show many ≤ 100 by omega)
    have hc : ∀ s, calD ds (k + 6) 14 [.tup (P.map dP), .int (many : Int)] s = .ok (.lst ((chooseF P many).map dPs)) s := hc
    simp only [startR, exSs, exS, evE, evEs, evI, evO, evC, getR_0, getR_s, setR, tgR, wipeR, idx_tup, idx_lst, idx_dW0, idx_dW1, bi_len_t, bi_len_l, bi_all, bi_any, bi_min2, bi_max2, bi_tuple_l, bi_tuple_t, bi_list_l, bi_list_t, bi_int, bi_srt_l, bi_srt_t, bi_sset, bi_ssetT, chkB_bl, seq_t, seq_l, b_add, b_sub, ty_non, ty_bl, ty_int, ty_str, ty_tup, ty_lst, ty_dW, List.map_cons, List.map_nil, List.cons_append, List.nil_append, List.replicate_succ, List.replicate_zero, List.length_cons, List.length_nil, List.set_cons_zero, List.set_cons_succ, bnd_ok, bnd_bnd, noex_ok, opt_some, Option.map_some, Option.bind_some, List.getElem?_cons_zero, List.getElem?_cons_succ, ixD_0, ixD_1, ixD_2, cmpD_in, cmpD_inL, cmpD_not, cmpD_notL, cmpD_eq, cmpD_ne, cmpD_lt, cmpD_gt, cmpD_le, cmpD_ge, big0, big1, big2, big3, big4, big5, big6, big7, if_true, if_false, Nat.reduceAdd, Nat.reduceSub, Nat.reduceLT, ↓reduceIte, dec_lt, dec_le, dec_eq, eq_int, lst_of, Bool.false_eq_true, hc]
    refine for_findG (G := fun o => (∀ v, (chooseF P many).findSome? (goodD good) = some v → o = .ok (.rt v) s) ∧ ((chooseF P many).findSome? (goodD good) = none → ∃ r', o = .ok (Fl.nx r') s ∧ ∃ x y, r' = [Sl.v (dW n T), .v (.tup (P.map dP)), .v (.fn f), x, y]))
      (g := dPs) (o := goodD good) (P := fun r => ∃ y, r = [Sl.v (dW n T), .v (.tup (P.map dP)), .v (.fn f), .v (dN many), y]) ⟨_, rfl⟩ (fun row hrow r h => ?_) (fun v hv => ?_) (fun hv r h => ?_)
    · obtain ⟨y, rfl⟩ := h
      obtain ⟨q1, q2⟩ := choose_rowlen hrow
      obtain ⟨T', e1, e2⟩ := hf row q2 (by omega)
      have e3 : ∀ s, calD ds (k + 6) 12 [dW n T'] s = .ok (.bl (calmB n T')) s := fun s => m_calm (k := k) h0 hn
      unfold goodD
      cases hg : good row with
      | true =>
        rw [hg] at e2
        refine ⟨fun v hv => ?_, fun hv => (by cases hv)⟩
        cases hv
        simp only [startR, exSs, exS, evE, evEs, evI, evO, evC, getR_0, getR_s, setR, tgR, wipeR, idx_tup, idx_lst, idx_dW0, idx_dW1, bi_len_t, bi_len_l, bi_all, bi_any, bi_min2, bi_max2, bi_tuple_l, bi_tuple_t, bi_list_l, bi_list_t, bi_int, bi_srt_l, bi_srt_t, bi_sset, bi_ssetT, chkB_bl, seq_t, seq_l, b_add, b_sub, ty_non, ty_bl, ty_int, ty_str, ty_tup, ty_lst, ty_dW, List.map_cons, List.map_nil, List.cons_append, List.nil_append, List.replicate_succ, List.replicate_zero, List.length_cons, List.length_nil, List.set_cons_zero, List.set_cons_succ, bnd_ok, bnd_bnd, noex_ok, opt_some, Option.map_some, Option.bind_some, List.getElem?_cons_zero, List.getElem?_cons_succ, ixD_0, ixD_1, ixD_2, cmpD_in, cmpD_inL, cmpD_not, cmpD_notL, cmpD_eq, cmpD_ne, cmpD_lt, cmpD_gt, cmpD_le, cmpD_ge, big0, big1, big2, big3, big4, big5, big6, big7, if_true, if_false, Nat.reduceAdd, Nat.reduceSub, Nat.reduceLT, ↓reduceIte, dec_lt, dec_le, dec_eq, eq_int, lst_of, Bool.false_eq_true, e1, e3, e2]
      | false =>
        rw [hg] at e2
        refine ⟨fun v hv => (by cases hv), fun _ => ⟨[Sl.v (dW n T), .v (.tup (P.map dP)), .v (.fn f), .v (dN many), .v (dPs row)], ?_, _, rfl⟩⟩
        simp only [startR, exSs, exS, evE, evEs, evI, evO, evC, getR_0, getR_s, setR, tgR, wipeR, idx_tup, idx_lst, idx_dW0, idx_dW1, bi_len_t, bi_len_l, bi_all, bi_any, bi_min2, bi_max2, bi_tuple_l, bi_tuple_t, bi_list_l, bi_list_t, bi_int, bi_srt_l, bi_srt_t, bi_sset, bi_ssetT, chkB_bl, seq_t, seq_l, b_add, b_sub, ty_non, ty_bl, ty_int, ty_str, ty_tup, ty_lst, ty_dW, List.map_cons, List.map_nil, List.cons_append, List.nil_append, List.replicate_succ, List.replicate_zero, List.length_cons, List.length_nil, List.set_cons_zero, List.set_cons_succ, bnd_ok, bnd_bnd, noex_ok, opt_some, Option.map_some, Option.bind_some, List.getElem?_cons_zero, List.getElem?_cons_succ, ixD_0, ixD_1, ixD_2, cmpD_in, cmpD_inL, cmpD_not, cmpD_notL, cmpD_eq, cmpD_ne, cmpD_lt, cmpD_gt, cmpD_le, cmpD_ge, big0, big1, big2, big3, big4, big5, big6, big7, if_true, if_false, Nat.reduceAdd, Nat.reduceSub, Nat.reduceLT, ↓reduceIte, dec_lt, dec_le, dec_eq, eq_int, lst_of, Bool.false_eq_true, e1, e3, e2]
    · refine ⟨fun v' e => ?_, fun e => ?_⟩
      · rw [hv] at e; cases e; rfl
      · rw [hv] at e; cases e
    · obtain ⟨y, rfl⟩ := h
      refine ⟨fun v' e => ?_, fun _ => ⟨_, rfl, _, _, rfl⟩⟩
      rw [hv] at e; cases e
  · have e : firstD' P good = some v := hv
    rw [e]; rfl
  · obtain ⟨x, y, rfl⟩ := h
    have e : firstD' P good = none := hv
    rw [e]
    simp only [startR, exSs, exS, evE, evEs, evI, evO, evC, getR_0, getR_s, setR, tgR, wipeR, idx_tup, idx_lst, idx_dW0, idx_dW1, bi_len_t, bi_len_l, bi_all, bi_any, bi_min2, bi_max2, bi_tuple_l, bi_tuple_t, bi_list_l, bi_list_t, bi_int, bi_srt_l, bi_srt_t, bi_sset, bi_ssetT, chkB_bl, seq_t, seq_l, b_add, b_sub, ty_non, ty_bl, ty_int, ty_str, ty_tup, ty_lst, ty_dW, List.map_cons, List.map_nil, List.cons_append, List.nil_append, List.replicate_succ, List.replicate_zero, List.length_cons, List.length_nil, List.set_cons_zero, List.set_cons_succ, bnd_ok, bnd_bnd, noex_ok, opt_some, Option.map_some, Option.bind_some, List.getElem?_cons_zero, List.getElem?_cons_succ, ixD_0, ixD_1, ixD_2, cmpD_in, cmpD_inL, cmpD_not, cmpD_notL, cmpD_eq, cmpD_ne, cmpD_lt, cmpD_gt, cmpD_le, cmpD_ge, big0, big1, big2, big3, big4, big5, big6, big7, if_true, if_false, Nat.reduceAdd, Nat.reduceSub, Nat.reduceLT, ↓reduceIte, dec_lt, dec_le, dec_eq, eq_int, lst_of, Bool.false_eq_true]
    rfl
end Tw.K09
end
section
open PySem
namespace Tw.K09
theorem sub_bd {n : Nat} {T row : List Pr} (G : GoodW n T) (h : ∀ p ∈ row, p ∈ cT n T) : ∀ p ∈ T ++ row, p.1 < p.2 ∧ p.2 < n := fun p hp => by
  rcases List.mem_append.mp hp with z | z
  · exact G.bd p z
  · exact (good_cT G).bd p (h p z)
def goodS (n : Nat) (T : List Pr) (row : List Pr) : Bool := calmB n (T.filter fun p => decide (p ∉ row))
def goodA (n : Nat) (T : List Pr) (row : List Pr) : Bool := calmB n (uT n (T ++ row))
theorem pr6 {n : Nat} (hn : n ≤ 6) : (prs n).length ≤ 15 := by
  have h : n = 0 ∨ n = 1 ∨ n = 2 ∨ n = 3 ∨ n = 4 ∨ n = 5 ∨ n = 6 := by omega
  rcases h with e | e | e | e | e | e | e <;> rw [e] <;> decide
theorem T15 {n : Nat} {T : List Pr} (hn : n ≤ 6) (G : GoodW n T) : T.length ≤ 15 := by
  have e : T = uT n T := uT_eq G.bd G.srt fun p => Iff.rfl
  rw [e]
  exact Nat.le_trans (List.length_filter_le _ _) (pr6 hn)
theorem m_need_small {k n : Nat} {T : List Pr} {s : S} (hn : n ≤ 6) (G : GoodW n T) : calD ds (k + 6) 18 [dW n T] s = .ok .non s := by
  have z : decide ((6 : Int) < (n : Int)) = false := decide_eq_false (by omega)
  rw [cal_at (d := d_need_small) rfl rfl]
  simp only [startR, exSs, exS, evE, evEs, evI, evO, evC, getR_0, getR_s, setR, tgR, wipeR, idx_tup, idx_lst, idx_dW0, idx_dW1, bi_len_t, bi_len_l, bi_all, bi_any, bi_min2, bi_max2, bi_tuple_l, bi_tuple_t, bi_list_l, bi_list_t, bi_int, bi_srt_l, bi_srt_t, bi_sset, bi_ssetT, chkB_bl, seq_t, seq_l, b_add, b_sub, ty_non, ty_bl, ty_int, ty_str, ty_tup, ty_lst, ty_dW, List.map_cons, List.map_nil, List.cons_append, List.nil_append, List.replicate_succ, List.replicate_zero, List.length_cons, List.length_nil, List.set_cons_zero, List.set_cons_succ, bnd_ok, bnd_bnd, noex_ok, opt_some, Option.map_some, Option.bind_some, List.getElem?_cons_zero, List.getElem?_cons_succ, ixD_0, ixD_1, ixD_2, cmpD_in, cmpD_inL, cmpD_not, cmpD_notL, cmpD_eq, cmpD_ne, cmpD_lt, cmpD_gt, cmpD_le, cmpD_ge, big0, big1, big2, big3, big4, big5, big6, big7, if_true, if_false, Nat.reduceAdd, Nat.reduceSub, Nat.reduceLT, ↓reduceIte, dec_lt, dec_le, dec_eq, eq_int, lst_of, Bool.false_eq_true, d_need_small, b_need_small, m_need_web G, z]
theorem m_struck {k n : Nat} {T : List Pr} {s : S} (hn : n ≤ 6) (G : GoodW n T) : calD ds (k + 8) 19 [dW n T] s = .ok ((firstD' T (goodS n T)).getD .non) s := by
  have e1 : ∀ s, calD ds (k + 7) 18 [dW n T] s = .ok .non s := fun s => m_need_small (k := k + 1) hn G
  have e2 := fun s => m_fc (k := k) (n := n) (f := 16) (T := T) (P := T) (good := goodS n T) (s := s) G.h0 G.h7 G.srt (T15 hn G) fun row _ _ => ⟨_, fun s => m_without (k := k + 5) G.len, rfl⟩
  rw [cal_at (d := d_least_struck) rfl rfl]
  simp only [startR, exSs, exS, evE, evEs, evI, evO, evC, getR_0, getR_s, setR, tgR, wipeR, idx_tup, idx_lst, idx_dW0, idx_dW1, bi_len_t, bi_len_l, bi_all, bi_any, bi_min2, bi_max2, bi_tuple_l, bi_tuple_t, bi_list_l, bi_list_t, bi_int, bi_srt_l, bi_srt_t, bi_sset, bi_ssetT, chkB_bl, seq_t, seq_l, b_add, b_sub, ty_non, ty_bl, ty_int, ty_str, ty_tup, ty_lst, ty_dW, List.map_cons, List.map_nil, List.cons_append, List.nil_append, List.replicate_succ, List.replicate_zero, List.length_cons, List.length_nil, List.set_cons_zero, List.set_cons_succ, bnd_ok, bnd_bnd, noex_ok, opt_some, Option.map_some, Option.bind_some, List.getElem?_cons_zero, List.getElem?_cons_succ, ixD_0, ixD_1, ixD_2, cmpD_in, cmpD_inL, cmpD_not, cmpD_notL, cmpD_eq, cmpD_ne, cmpD_lt, cmpD_gt, cmpD_le, cmpD_ge, big0, big1, big2, big3, big4, big5, big6, big7, if_true, if_false, Nat.reduceAdd, Nat.reduceSub, Nat.reduceLT, ↓reduceIte, dec_lt, dec_le, dec_eq, eq_int, lst_of, Bool.false_eq_true, d_least_struck, b_least_struck, e1, e2]
theorem m_put {k n : Nat} {T : List Pr} {s : S} (hn : n ≤ 6) (G : GoodW n T) : calD ds (k + 8) 20 [dW n T] s = .ok ((firstD' (cT n T) (goodA n T)).getD .non) s := by
  have e1 : ∀ s, calD ds (k + 7) 18 [dW n T] s = .ok .non s := fun s => m_need_small (k := k + 1) hn G
  have e3 : ∀ s, calD ds (k + 7) 8 [dW n T] s = .ok (dW n (cT n T)) s := fun s => m_counter (k := k + 5) G.h7
  have lT := T15 hn G
  have e2 := fun s => m_fc (k := k) (n := n) (f := 15) (T := T) (P := cT n T) (good := goodA n T) (s := s) G.h0 G.h7 (good_cT G).srt (T15 hn (good_cT G)) fun row h1 h2 => ⟨_, fun s => m_with (k := k + 5) G.h7 (sub_bd G h1) (by rw [List.length_append]; omega), rfl⟩
  rw [cal_at (d := d_least_put) rfl rfl]
  simp only [startR, exSs, exS, evE, evEs, evI, evO, evC, getR_0, getR_s, setR, tgR, wipeR, idx_tup, idx_lst, idx_dW0, idx_dW1, bi_len_t, bi_len_l, bi_all, bi_any, bi_min2, bi_max2, bi_tuple_l, bi_tuple_t, bi_list_l, bi_list_t, bi_int, bi_srt_l, bi_srt_t, bi_sset, bi_ssetT, chkB_bl, seq_t, seq_l, b_add, b_sub, ty_non, ty_bl, ty_int, ty_str, ty_tup, ty_lst, ty_dW, List.map_cons, List.map_nil, List.cons_append, List.nil_append, List.replicate_succ, List.replicate_zero, List.length_cons, List.length_nil, List.set_cons_zero, List.set_cons_succ, bnd_ok, bnd_bnd, noex_ok, opt_some, Option.map_some, Option.bind_some, List.getElem?_cons_zero, List.getElem?_cons_succ, ixD_0, ixD_1, ixD_2, cmpD_in, cmpD_inL, cmpD_not, cmpD_notL, cmpD_eq, cmpD_ne, cmpD_lt, cmpD_gt, cmpD_le, cmpD_ge, big0, big1, big2, big3, big4, big5, big6, big7, if_true, if_false, Nat.reduceAdd, Nat.reduceSub, Nat.reduceLT, ↓reduceIte, dec_lt, dec_le, dec_eq, eq_int, lst_of, Bool.false_eq_true, d_least_put, b_least_put, e1, e2, e3]
theorem nd_choose {P : List Pr} (h : P.Pairwise ltP) : ∀ {k : Nat} {row : List Pr}, row ∈ chooseF P k → row.Pairwise ltP
  | 0, row, hr => by
    have e : row = [] := by simpa [chooseF] using hr
    rw [e]; exact List.Pairwise.nil
  | k + 1, row, hr => by
    obtain ⟨r0, h0, h1⟩ := List.mem_flatMap.mp (show row ∈ (chooseF P k).flatMap (extP P) from hr)
    obtain ⟨p, hp, rfl⟩ := List.mem_map.mp h1
    have ih := nd_choose h h0
    have hb := (List.mem_filter.mp hp).2
    refine List.pairwise_append.mpr ⟨ih, List.pairwise_singleton _ _, fun a ha b hb' => ?_⟩
    rw [List.mem_singleton.mp hb']
    unfold extB at hb
    rcases Bool.or_eq_true_iff.mp hb with z | z
    · have e := of_decide_eq_true z
      rw [e] at ha; cases ha
    · have hl := ltPb_iff.mp z
      have hne : r0 ≠ [] := fun e => by rw [e] at ha; cases ha
      obtain ⟨q, b0, e⟩ : ∃ q b0, r0 = q ++ [b0] := ⟨r0.dropLast, r0.getLast hne, (List.dropLast_concat_getLast hne).symm⟩
      rw [e, last_snocP] at hl
      rw [e] at ha ih
      rcases List.mem_append.mp ha with k1 | k1
      · have k2 := (List.pairwise_append.mp ih).2.2 a k1 b0 (List.mem_singleton.mpr rfl)
        unfold ltP at *
        omega
      · rw [List.mem_singleton.mp k1]; exact hl
end Tw.K09
end
section
open PySem
namespace Tw.K09
theorem m_lfirstS (hm : ∀ n T, GoodW n T → holesL n T = lawL n T) {k n : Nat} {T : List Pr} {s : S} (hn : n ≤ 6) (G : GoodW n T) : calD ds (k + 5) 36 [dW n T, .bl true] s = .ok ((firstD' T (goodS n T)).getD .non) s := by
  have lP := (T15 hn G)
  have lT := T15 hn G
  have hT' : T.length ≤ big := by unfold big; omega
  have r1 : rangeD [.int ((T.length : Int) + 1)] = some ((List.range (T.length + 1)).map dN) := by
    have z := range_int (T.length + 1) (by unfold big; omega)
    rw [show ((T.length + 1 : Nat) : Int) = (T.length : Int) + 1 by omega] at z
    exact z
  have e0 : ∀ s, calD ds (k + 4) 27 [dW n T] s = .ok (dW n (cT n T)) s := fun s => m_lagainst (k := k + 2) G.h7
  rw [cal_at (d := d__law_first) rfl rfl]
  simp only [startR, exSs, exS, evE, evEs, evI, evO, evC, getR_0, getR_s, setR, tgR, wipeR, idx_tup, idx_lst, idx_dW0, idx_dW1, bi_len_t, bi_len_l, bi_all, bi_any, bi_min2, bi_max2, bi_tuple_l, bi_tuple_t, bi_list_l, bi_list_t, bi_int, bi_srt_l, bi_srt_t, bi_sset, bi_ssetT, chkB_bl, seq_t, seq_l, b_add, b_sub, ty_non, ty_bl, ty_int, ty_str, ty_tup, ty_lst, ty_dW, List.map_cons, List.map_nil, List.cons_append, List.nil_append, List.replicate_succ, List.replicate_zero, List.length_cons, List.length_nil, List.set_cons_zero, List.set_cons_succ, bnd_ok, bnd_bnd, noex_ok, opt_some, Option.map_some, Option.bind_some, List.getElem?_cons_zero, List.getElem?_cons_succ, ixD_0, ixD_1, ixD_2, cmpD_in, cmpD_inL, cmpD_not, cmpD_notL, cmpD_eq, cmpD_ne, cmpD_lt, cmpD_gt, cmpD_le, cmpD_ge, big0, big1, big2, big3, big4, big5, big6, big7, if_true, if_false, Nat.reduceAdd, Nat.reduceSub, Nat.reduceLT, ↓reduceIte, dec_lt, dec_le, dec_eq, eq_int, lst_of, Bool.false_eq_true, d__law_first, b__law_first, e0, List.length_map, r1]
  refine for_findG (G := fun o => o = .ok ((firstD' T (goodS n T)).getD .non) s) (g := dN) (o := fun many => (chooseF T many).findSome? (goodD (goodS n T))) (P := fun r => ∃ x y z, r = [Sl.v (dW n T), .v (.bl true), .v (.tup (T.map dP)), x, y, z, .no]) ⟨_, _, _, rfl⟩ (fun many hmany r h => ?_) (fun v hv => ?_) (fun hv r h => ?_)
  · obtain ⟨x, y, z, rfl⟩ := h
    have hmany : many < T.length + 1 := List.mem_range.mp hmany
    have hc : ∀ s, calD ds (k + 4) 35 [.tup (T.map dP), .int (many : Int)] s = .ok (.lst ((chooseF T many).map dPs)) s := fun s => m_lots_of (k := k + 3) (s := s) G.srt lP (show many ≤ 100 by omega)
    simp only [startR, exSs, exS, evE, evEs, evI, evO, evC, getR_0, getR_s, setR, tgR, wipeR, idx_tup, idx_lst, idx_dW0, idx_dW1, bi_len_t, bi_len_l, bi_all, bi_any, bi_min2, bi_max2, bi_tuple_l, bi_tuple_t, bi_list_l, bi_list_t, bi_int, bi_srt_l, bi_srt_t, bi_sset, bi_ssetT, chkB_bl, seq_t, seq_l, b_add, b_sub, ty_non, ty_bl, ty_int, ty_str, ty_tup, ty_lst, ty_dW, List.map_cons, List.map_nil, List.cons_append, List.nil_append, List.replicate_succ, List.replicate_zero, List.length_cons, List.length_nil, List.set_cons_zero, List.set_cons_succ, bnd_ok, bnd_bnd, noex_ok, opt_some, Option.map_some, Option.bind_some, List.getElem?_cons_zero, List.getElem?_cons_succ, ixD_0, ixD_1, ixD_2, cmpD_in, cmpD_inL, cmpD_not, cmpD_notL, cmpD_eq, cmpD_ne, cmpD_lt, cmpD_gt, cmpD_le, cmpD_ge, big0, big1, big2, big3, big4, big5, big6, big7, if_true, if_false, Nat.reduceAdd, Nat.reduceSub, Nat.reduceLT, ↓reduceIte, dec_lt, dec_le, dec_eq, eq_int, lst_of, Bool.false_eq_true, hc]
    refine for_findG (G := fun o => (∀ v, (chooseF T many).findSome? (goodD (goodS n T)) = some v → o = .ok (.rt v) s) ∧ ((chooseF T many).findSome? (goodD (goodS n T)) = none → ∃ r', o = .ok (Fl.nx r') s ∧ ∃ x y z, r' = [Sl.v (dW n T), .v (.bl true), .v (.tup (T.map dP)), x, y, z, .no]))
      (g := dPs) (o := goodD (goodS n T)) (P := fun r => ∃ y z, r = [Sl.v (dW n T), .v (.bl true), .v (.tup (T.map dP)), .v (dN many), y, z, .no]) ⟨_, _, rfl⟩ (fun row hrow r h => ?_) (fun v hv => ?_) (fun hv r h => ?_)
    · obtain ⟨y, z, rfl⟩ := h
      obtain ⟨q1, q2⟩ := choose_rowlen hrow
      have hs : (T.filter fun p => decide (p ∉ row)).Pairwise ltP := G.srt.filter _
      have eS : srtP (T.filter fun p => decide (p ∉ row)) = (T.filter fun p => decide (p ∉ row)) := ltP_uniq (srtP_srt (ltP_nd hs)) hs fun p => srtP_mem
      have GM : GoodW n (T.filter fun p => decide (p ∉ row)) := ⟨G.h0, G.h7, hs, fun p hp => G.bd p (List.mem_filter.mp hp).1, Nat.le_trans (List.length_filter_le _ _) G.len⟩
      have hL : (T.filter fun p => decide (p ∉ row)).length ≤ big := Nat.le_trans (List.length_filter_le _ _) hT'
      have e3 : ∀ s, calD ds (k + 4) 34 [dW n (T.filter fun p => decide (p ∉ row))] s = .ok (.bl (calmB n (T.filter fun p => decide (p ∉ row)))) s := fun s => m_lcalm hm (k := k + 1) GM
      simp only [dW] at e3
      have e2 : calmB n (T.filter fun p => decide (p ∉ row)) = goodS n T row := rfl
      have key : ∀ R, (match calmB n (T.filter fun p => decide (p ∉ row)) with
          | true => Out.ok (Fl.rt (dPs row)) s
          | false => Out.ok (Fl.nx [Sl.v (dW n T), .v (.bl true), .v (.tup (T.map dP)), .v (dN many), .v (dPs row), .v (.lst ((T.filter fun p => decide (p ∉ row)).map dP)), .no]) s) = R →
          (match tgR [Sl.v (dW n T), .v (.bl true), .v (.tup (T.map dP)), .v (dN many), y, z, .no] (.nm 4) (dPs row) with
            | some r1 => exSs (calF ds (k + 4)) (match b__law_first with | .cons _ (.cons (.for _ _ (.cons (.for _ _ b) _)) _) => b | _ => .nil) (k + 4) r1 s
            | none => .bad) = R := fun R hR => by
        simp only [startR, exSs, exS, evE, evEs, evI, evO, evC, getR_0, getR_s, setR, tgR, wipeR, idx_tup, idx_lst, idx_dW0, idx_dW1, bi_len_t, bi_len_l, bi_all, bi_any, bi_min2, bi_max2, bi_tuple_l, bi_tuple_t, bi_list_l, bi_list_t, bi_int, bi_srt_l, bi_srt_t, bi_sset, bi_ssetT, chkB_bl, seq_t, seq_l, b_add, b_sub, ty_non, ty_bl, ty_int, ty_str, ty_tup, ty_lst, ty_dW, List.map_cons, List.map_nil, List.cons_append, List.nil_append, List.replicate_succ, List.replicate_zero, List.length_cons, List.length_nil, List.set_cons_zero, List.set_cons_succ, bnd_ok, bnd_bnd, noex_ok, opt_some, Option.map_some, Option.bind_some, List.getElem?_cons_zero, List.getElem?_cons_succ, ixD_0, ixD_1, ixD_2, cmpD_in, cmpD_inL, cmpD_not, cmpD_notL, cmpD_eq, cmpD_ne, cmpD_lt, cmpD_gt, cmpD_le, cmpD_ge, big0, big1, big2, big3, big4, big5, big6, big7, if_true, if_false, Nat.reduceAdd, Nat.reduceSub, Nat.reduceLT, ↓reduceIte, dec_lt, dec_le, dec_eq, eq_int, lst_of, Bool.false_eq_true, b__law_first, List.length_map, hT']
        refine lc_run (g := dP) (p := fun p => decide (p ∉ row)) (h := dP) (fun p _ => ?_) ?_
        · simp only [startR, exSs, exS, evE, evEs, evI, evO, evC, getR_0, getR_s, setR, tgR, wipeR, idx_tup, idx_lst, idx_dW0, idx_dW1, bi_len_t, bi_len_l, bi_all, bi_any, bi_min2, bi_max2, bi_tuple_l, bi_tuple_t, bi_list_l, bi_list_t, bi_int, bi_srt_l, bi_srt_t, bi_sset, bi_ssetT, chkB_bl, seq_t, seq_l, b_add, b_sub, ty_non, ty_bl, ty_int, ty_str, ty_tup, ty_lst, ty_dW, List.map_cons, List.map_nil, List.cons_append, List.nil_append, List.replicate_succ, List.replicate_zero, List.length_cons, List.length_nil, List.set_cons_zero, List.set_cons_succ, bnd_ok, bnd_bnd, noex_ok, opt_some, Option.map_some, Option.bind_some, List.getElem?_cons_zero, List.getElem?_cons_succ, ixD_0, ixD_1, ixD_2, cmpD_in, cmpD_inL, cmpD_not, cmpD_notL, cmpD_eq, cmpD_ne, cmpD_lt, cmpD_gt, cmpD_le, cmpD_ge, big0, big1, big2, big3, big4, big5, big6, big7, if_true, if_false, Nat.reduceAdd, Nat.reduceSub, Nat.reduceLT, ↓reduceIte, dec_lt, dec_le, dec_eq, eq_int, lst_of, Bool.false_eq_true, not_dPs]
          by_cases h : p ∈ row <;> simp [h]
        · simp only [startR, exSs, exS, evE, evEs, evI, evO, evC, getR_0, getR_s, setR, tgR, wipeR, idx_tup, idx_lst, idx_dW0, idx_dW1, bi_len_t, bi_len_l, bi_all, bi_any, bi_min2, bi_max2, bi_tuple_l, bi_tuple_t, bi_list_l, bi_list_t, bi_int, bi_srt_l, bi_srt_t, bi_sset, bi_ssetT, chkB_bl, seq_t, seq_l, b_add, b_sub, ty_non, ty_bl, ty_int, ty_str, ty_tup, ty_lst, ty_dW, List.map_cons, List.map_nil, List.cons_append, List.nil_append, List.replicate_succ, List.replicate_zero, List.length_cons, List.length_nil, List.set_cons_zero, List.set_cons_succ, bnd_ok, bnd_bnd, noex_ok, opt_some, Option.map_some, Option.bind_some, List.getElem?_cons_zero, List.getElem?_cons_succ, ixD_0, ixD_1, ixD_2, cmpD_in, cmpD_inL, cmpD_not, cmpD_notL, cmpD_eq, cmpD_ne, cmpD_lt, cmpD_gt, cmpD_le, cmpD_ge, big0, big1, big2, big3, big4, big5, big6, big7, if_true, if_false, Nat.reduceAdd, Nat.reduceSub, Nat.reduceLT, ↓reduceIte, dec_lt, dec_le, dec_eq, eq_int, lst_of, Bool.false_eq_true, srt_dPs hL, sortD_dP, eS, e3]
          rw [← hR]
          cases calmB n (T.filter fun p => decide (p ∉ row)) <;> rfl
      simp only [b__law_first] at key
      simp only [startR, exSs, exS, evE, evEs, evI, evO, evC, getR_0, getR_s, setR, tgR, wipeR, idx_tup, idx_lst, idx_dW0, idx_dW1, bi_len_t, bi_len_l, bi_all, bi_any, bi_min2, bi_max2, bi_tuple_l, bi_tuple_t, bi_list_l, bi_list_t, bi_int, bi_srt_l, bi_srt_t, bi_sset, bi_ssetT, chkB_bl, seq_t, seq_l, b_add, b_sub, ty_non, ty_bl, ty_int, ty_str, ty_tup, ty_lst, ty_dW, List.map_cons, List.map_nil, List.cons_append, List.nil_append, List.replicate_succ, List.replicate_zero, List.length_cons, List.length_nil, List.set_cons_zero, List.set_cons_succ, bnd_ok, bnd_bnd, noex_ok, opt_some, Option.map_some, Option.bind_some, List.getElem?_cons_zero, List.getElem?_cons_succ, ixD_0, ixD_1, ixD_2, cmpD_in, cmpD_inL, cmpD_not, cmpD_notL, cmpD_eq, cmpD_ne, cmpD_lt, cmpD_gt, cmpD_le, cmpD_ge, big0, big1, big2, big3, big4, big5, big6, big7, if_true, if_false, Nat.reduceAdd, Nat.reduceSub, Nat.reduceLT, ↓reduceIte, dec_lt, dec_le, dec_eq, eq_int, lst_of, Bool.false_eq_true] at key ⊢
      unfold goodD
      rw [e2] at key
      cases hg : goodS n T row with
      | true =>
        rw [hg] at key
        refine ⟨fun v hv => ?_, fun hv => (by cases hv)⟩
        cases hv
        exact key _ rfl
      | false =>
        rw [hg] at key
        exact ⟨fun v hv => (by cases hv), fun _ => ⟨_, key _ rfl, _, _, rfl⟩⟩
    · refine ⟨fun v' e => ?_, fun e => ?_⟩
      · rw [hv] at e; cases e; rfl
      · rw [hv] at e; cases e
    · obtain ⟨y, z, rfl⟩ := h
      refine ⟨fun v' e => ?_, fun _ => ⟨_, rfl, _, _, _, rfl⟩⟩
      rw [hv] at e; cases e
  · have e : firstD' T (goodS n T) = some v := hv
    rw [e]; rfl
  · obtain ⟨x, y, z, rfl⟩ := h
    have e : firstD' T (goodS n T) = none := hv
    rw [e]
    simp only [startR, exSs, exS, evE, evEs, evI, evO, evC, getR_0, getR_s, setR, tgR, wipeR, idx_tup, idx_lst, idx_dW0, idx_dW1, bi_len_t, bi_len_l, bi_all, bi_any, bi_min2, bi_max2, bi_tuple_l, bi_tuple_t, bi_list_l, bi_list_t, bi_int, bi_srt_l, bi_srt_t, bi_sset, bi_ssetT, chkB_bl, seq_t, seq_l, b_add, b_sub, ty_non, ty_bl, ty_int, ty_str, ty_tup, ty_lst, ty_dW, List.map_cons, List.map_nil, List.cons_append, List.nil_append, List.replicate_succ, List.replicate_zero, List.length_cons, List.length_nil, List.set_cons_zero, List.set_cons_succ, bnd_ok, bnd_bnd, noex_ok, opt_some, Option.map_some, Option.bind_some, List.getElem?_cons_zero, List.getElem?_cons_succ, ixD_0, ixD_1, ixD_2, cmpD_in, cmpD_inL, cmpD_not, cmpD_notL, cmpD_eq, cmpD_ne, cmpD_lt, cmpD_gt, cmpD_le, cmpD_ge, big0, big1, big2, big3, big4, big5, big6, big7, if_true, if_false, Nat.reduceAdd, Nat.reduceSub, Nat.reduceLT, ↓reduceIte, dec_lt, dec_le, dec_eq, eq_int, lst_of, Bool.false_eq_true]
    rfl
theorem m_lfirstP (hm : ∀ n T, GoodW n T → holesL n T = lawL n T) {k n : Nat} {T : List Pr} {s : S} (hn : n ≤ 6) (G : GoodW n T) : calD ds (k + 5) 36 [dW n T, .bl false] s = .ok ((firstD' (cT n T) (goodA n T)).getD .non) s := by
  have lP := (T15 hn (good_cT G))
  have lT := T15 hn G
  have hT' : T.length ≤ big := by unfold big; omega
  have r1 : rangeD [.int (((cT n T).length : Int) + 1)] = some ((List.range ((cT n T).length + 1)).map dN) := by
    have z := range_int ((cT n T).length + 1) (by unfold big; omega)
    rw [show (((cT n T).length + 1 : Nat) : Int) = ((cT n T).length : Int) + 1 by omega] at z
    exact z
  have e0 : ∀ s, calD ds (k + 4) 27 [dW n T] s = .ok (dW n (cT n T)) s := fun s => m_lagainst (k := k + 2) G.h7
  rw [cal_at (d := d__law_first) rfl rfl]
  simp only [startR, exSs, exS, evE, evEs, evI, evO, evC, getR_0, getR_s, setR, tgR, wipeR, idx_tup, idx_lst, idx_dW0, idx_dW1, bi_len_t, bi_len_l, bi_all, bi_any, bi_min2, bi_max2, bi_tuple_l, bi_tuple_t, bi_list_l, bi_list_t, bi_int, bi_srt_l, bi_srt_t, bi_sset, bi_ssetT, chkB_bl, seq_t, seq_l, b_add, b_sub, ty_non, ty_bl, ty_int, ty_str, ty_tup, ty_lst, ty_dW, List.map_cons, List.map_nil, List.cons_append, List.nil_append, List.replicate_succ, List.replicate_zero, List.length_cons, List.length_nil, List.set_cons_zero, List.set_cons_succ, bnd_ok, bnd_bnd, noex_ok, opt_some, Option.map_some, Option.bind_some, List.getElem?_cons_zero, List.getElem?_cons_succ, ixD_0, ixD_1, ixD_2, cmpD_in, cmpD_inL, cmpD_not, cmpD_notL, cmpD_eq, cmpD_ne, cmpD_lt, cmpD_gt, cmpD_le, cmpD_ge, big0, big1, big2, big3, big4, big5, big6, big7, if_true, if_false, Nat.reduceAdd, Nat.reduceSub, Nat.reduceLT, ↓reduceIte, dec_lt, dec_le, dec_eq, eq_int, lst_of, Bool.false_eq_true, d__law_first, b__law_first, e0, List.length_map, r1]
  refine for_findG (G := fun o => o = .ok ((firstD' (cT n T) (goodA n T)).getD .non) s) (g := dN) (o := fun many => (chooseF (cT n T) many).findSome? (goodD (goodA n T))) (P := fun r => ∃ x y z, r = [Sl.v (dW n T), .v (.bl false), .v (.tup ((cT n T).map dP)), x, y, z, .no]) ⟨_, _, _, rfl⟩ (fun many hmany r h => ?_) (fun v hv => ?_) (fun hv r h => ?_)
  · obtain ⟨x, y, z, rfl⟩ := h
    have hmany : many < (cT n T).length + 1 := List.mem_range.mp hmany
    have hc : ∀ s, calD ds (k + 4) 35 [.tup ((cT n T).map dP), .int (many : Int)] s = .ok (.lst ((chooseF (cT n T) many).map dPs)) s := fun s => m_lots_of (k := k + 3) (s := s) (good_cT G).srt lP (show many ≤ 100 by omega)
    simp only [startR, exSs, exS, evE, evEs, evI, evO, evC, getR_0, getR_s, setR, tgR, wipeR, idx_tup, idx_lst, idx_dW0, idx_dW1, bi_len_t, bi_len_l, bi_all, bi_any, bi_min2, bi_max2, bi_tuple_l, bi_tuple_t, bi_list_l, bi_list_t, bi_int, bi_srt_l, bi_srt_t, bi_sset, bi_ssetT, chkB_bl, seq_t, seq_l, b_add, b_sub, ty_non, ty_bl, ty_int, ty_str, ty_tup, ty_lst, ty_dW, List.map_cons, List.map_nil, List.cons_append, List.nil_append, List.replicate_succ, List.replicate_zero, List.length_cons, List.length_nil, List.set_cons_zero, List.set_cons_succ, bnd_ok, bnd_bnd, noex_ok, opt_some, Option.map_some, Option.bind_some, List.getElem?_cons_zero, List.getElem?_cons_succ, ixD_0, ixD_1, ixD_2, cmpD_in, cmpD_inL, cmpD_not, cmpD_notL, cmpD_eq, cmpD_ne, cmpD_lt, cmpD_gt, cmpD_le, cmpD_ge, big0, big1, big2, big3, big4, big5, big6, big7, if_true, if_false, Nat.reduceAdd, Nat.reduceSub, Nat.reduceLT, ↓reduceIte, dec_lt, dec_le, dec_eq, eq_int, lst_of, Bool.false_eq_true, hc]
    refine for_findG (G := fun o => (∀ v, (chooseF (cT n T) many).findSome? (goodD (goodA n T)) = some v → o = .ok (.rt v) s) ∧ ((chooseF (cT n T) many).findSome? (goodD (goodA n T)) = none → ∃ r', o = .ok (Fl.nx r') s ∧ ∃ x y z, r' = [Sl.v (dW n T), .v (.bl false), .v (.tup ((cT n T).map dP)), x, y, z, .no]))
      (g := dPs) (o := goodD (goodA n T)) (P := fun r => ∃ y z, r = [Sl.v (dW n T), .v (.bl false), .v (.tup ((cT n T).map dP)), .v (dN many), y, z, .no]) ⟨_, _, rfl⟩ (fun row hrow r h => ?_) (fun v hv => ?_) (fun hv r h => ?_)
    · obtain ⟨y, z, rfl⟩ := h
      obtain ⟨q1, q2⟩ := choose_rowlen hrow
      have hnd : (T ++ row).Nodup := List.nodup_append.mpr ⟨ltP_nd G.srt, ltP_nd (nd_choose (good_cT G).srt hrow), fun a ha b hb e => by
        subst e
        have := (List.mem_filter.mp (q2 a hb)).2
        exact of_decide_eq_true this ha⟩
      have eS : srtP (T ++ row) = (uT n (T ++ row)) := uT_eq (sub_bd G q2) (srtP_srt hnd) fun p => srtP_mem
      have GM : GoodW n (uT n (T ++ row)) := uT_good G.h0 G.h7
      have hL : (T ++ row).length ≤ big := by rw [List.length_append]; unfold big; omega
      have e3 : ∀ s, calD ds (k + 4) 34 [dW n (uT n (T ++ row))] s = .ok (.bl (calmB n (uT n (T ++ row)))) s := fun s => m_lcalm hm (k := k + 1) GM
      simp only [dW] at e3
      have e2 : calmB n (uT n (T ++ row)) = goodA n T row := rfl
      have key : ∀ R, (match calmB n (uT n (T ++ row)) with
          | true => Out.ok (Fl.rt (dPs row)) s
          | false => Out.ok (Fl.nx [Sl.v (dW n T), .v (.bl false), .v (.tup ((cT n T).map dP)), .v (dN many), .v (dPs row), .v (.lst ((T ++ row).map dP)), .no]) s) = R →
          (match tgR [Sl.v (dW n T), .v (.bl false), .v (.tup ((cT n T).map dP)), .v (dN many), y, z, .no] (.nm 4) (dPs row) with
            | some r1 => exSs (calF ds (k + 4)) (match b__law_first with | .cons _ (.cons (.for _ _ (.cons (.for _ _ b) _)) _) => b | _ => .nil) (k + 4) r1 s
            | none => .bad) = R := fun R hR => by
        simp only [startR, exSs, exS, evE, evEs, evI, evO, evC, getR_0, getR_s, setR, tgR, wipeR, idx_tup, idx_lst, idx_dW0, idx_dW1, bi_len_t, bi_len_l, bi_all, bi_any, bi_min2, bi_max2, bi_tuple_l, bi_tuple_t, bi_list_l, bi_list_t, bi_int, bi_srt_l, bi_srt_t, bi_sset, bi_ssetT, chkB_bl, seq_t, seq_l, b_add, b_sub, ty_non, ty_bl, ty_int, ty_str, ty_tup, ty_lst, ty_dW, List.map_cons, List.map_nil, List.cons_append, List.nil_append, List.replicate_succ, List.replicate_zero, List.length_cons, List.length_nil, List.set_cons_zero, List.set_cons_succ, bnd_ok, bnd_bnd, noex_ok, opt_some, Option.map_some, Option.bind_some, List.getElem?_cons_zero, List.getElem?_cons_succ, ixD_0, ixD_1, ixD_2, cmpD_in, cmpD_inL, cmpD_not, cmpD_notL, cmpD_eq, cmpD_ne, cmpD_lt, cmpD_gt, cmpD_le, cmpD_ge, big0, big1, big2, big3, big4, big5, big6, big7, if_true, if_false, Nat.reduceAdd, Nat.reduceSub, Nat.reduceLT, ↓reduceIte, dec_lt, dec_le, dec_eq, eq_int, lst_of, Bool.false_eq_true, b__law_first, addT_dPs (show T.length + row.length ≤ 1000 by omega), srt_dPs hL, sortD_dP, eS, e3]
        rw [← hR]
        cases calmB n (uT n (T ++ row)) <;> rfl
      simp only [b__law_first] at key
      simp only [startR, exSs, exS, evE, evEs, evI, evO, evC, getR_0, getR_s, setR, tgR, wipeR, idx_tup, idx_lst, idx_dW0, idx_dW1, bi_len_t, bi_len_l, bi_all, bi_any, bi_min2, bi_max2, bi_tuple_l, bi_tuple_t, bi_list_l, bi_list_t, bi_int, bi_srt_l, bi_srt_t, bi_sset, bi_ssetT, chkB_bl, seq_t, seq_l, b_add, b_sub, ty_non, ty_bl, ty_int, ty_str, ty_tup, ty_lst, ty_dW, List.map_cons, List.map_nil, List.cons_append, List.nil_append, List.replicate_succ, List.replicate_zero, List.length_cons, List.length_nil, List.set_cons_zero, List.set_cons_succ, bnd_ok, bnd_bnd, noex_ok, opt_some, Option.map_some, Option.bind_some, List.getElem?_cons_zero, List.getElem?_cons_succ, ixD_0, ixD_1, ixD_2, cmpD_in, cmpD_inL, cmpD_not, cmpD_notL, cmpD_eq, cmpD_ne, cmpD_lt, cmpD_gt, cmpD_le, cmpD_ge, big0, big1, big2, big3, big4, big5, big6, big7, if_true, if_false, Nat.reduceAdd, Nat.reduceSub, Nat.reduceLT, ↓reduceIte, dec_lt, dec_le, dec_eq, eq_int, lst_of, Bool.false_eq_true] at key ⊢
      unfold goodD
      rw [e2] at key
      cases hg : goodA n T row with
      | true =>
        rw [hg] at key
        refine ⟨fun v hv => ?_, fun hv => (by cases hv)⟩
        cases hv
        exact key _ rfl
      | false =>
        rw [hg] at key
        exact ⟨fun v hv => (by cases hv), fun _ => ⟨_, key _ rfl, _, _, rfl⟩⟩
    · refine ⟨fun v' e => ?_, fun e => ?_⟩
      · rw [hv] at e; cases e; rfl
      · rw [hv] at e; cases e
    · obtain ⟨y, z, rfl⟩ := h
      refine ⟨fun v' e => ?_, fun _ => ⟨_, rfl, _, _, _, rfl⟩⟩
      rw [hv] at e; cases e
  · have e : firstD' (cT n T) (goodA n T) = some v := hv
    rw [e]; rfl
  · obtain ⟨x, y, z, rfl⟩ := h
    have e : firstD' (cT n T) (goodA n T) = none := hv
    rw [e]
    simp only [startR, exSs, exS, evE, evEs, evI, evO, evC, getR_0, getR_s, setR, tgR, wipeR, idx_tup, idx_lst, idx_dW0, idx_dW1, bi_len_t, bi_len_l, bi_all, bi_any, bi_min2, bi_max2, bi_tuple_l, bi_tuple_t, bi_list_l, bi_list_t, bi_int, bi_srt_l, bi_srt_t, bi_sset, bi_ssetT, chkB_bl, seq_t, seq_l, b_add, b_sub, ty_non, ty_bl, ty_int, ty_str, ty_tup, ty_lst, ty_dW, List.map_cons, List.map_nil, List.cons_append, List.nil_append, List.replicate_succ, List.replicate_zero, List.length_cons, List.length_nil, List.set_cons_zero, List.set_cons_succ, bnd_ok, bnd_bnd, noex_ok, opt_some, Option.map_some, Option.bind_some, List.getElem?_cons_zero, List.getElem?_cons_succ, ixD_0, ixD_1, ixD_2, cmpD_in, cmpD_inL, cmpD_not, cmpD_notL, cmpD_eq, cmpD_ne, cmpD_lt, cmpD_gt, cmpD_le, cmpD_ge, big0, big1, big2, big3, big4, big5, big6, big7, if_true, if_false, Nat.reduceAdd, Nat.reduceSub, Nat.reduceLT, ↓reduceIte, dec_lt, dec_le, dec_eq, eq_int, lst_of, Bool.false_eq_true]
    rfl
end Tw.K09
end
section
open PySem
namespace Tw.K09
theorem first_th {P : List Pr} {good : List Pr → Bool} (hl : P.length ≤ 15) : Th 49 2 ((firstD' P good).getD .non) := by
  cases h : firstD' P good with
  | none => exact th_non
  | some v =>
    obtain ⟨many, hm, h1⟩ := List.exists_of_findSome?_eq_some h
    obtain ⟨row, hr, h2⟩ := List.exists_of_findSome?_eq_some h1
    have hm := List.mem_range.mp hm
    unfold goodD at h2
    split at h2
    · cases h2
      refine (th_tup (by omega)).mpr ⟨fun x hx => ?_, by rw [List.length_map, (choose_rowlen hr).1]; omega⟩
      obtain ⟨p, _, rfl⟩ := List.mem_map.mp hx
      exact th_dP (by omega) (by omega) p
    · cases h2
def cellB : Ss := match b_law with
  | .cons (.for _ _ b) _ => b
  | _ => .nil
def stN : St := match cellB with
  | .cons _ (.cons a _) => a
  | _ => .nev
def stCall : St := match cellB with
  | .cons _ (.cons _ (.cons a _)) => a
  | _ => .nev
def tailL : Ss := match b_law with
  | .cons _ t => t
  | .nil => .nil
theorem law_eq : d_law.body = .cons (.for (.nm 1) (.seq (.sl (.bin .add (.lst (.cons (.int 0) .nil)) (.var 0)) .no (.so (.int 6)))) cellB) tailL := rfl
theorem cell_eq : cellB = .cons (.set 9 (.cal 21 (.cons (.var 1) (.cons (.int 9) .nil)))) (.cons stN (.cons stCall .nil)) := rfl
theorem m_call (x0 x1 x9 x10 x11 x12 x13 : Sl) (s : S) : exS (calF ds 12) stCall 12 [x0, x1, .no, .no, .no, .no, .no, .no, .no, x9, x10, x11, x12, x13, .no] s =
    .ok (.nx [x0, x1, .no, .no, .no, .no, .no, .no, .no, x9, x10, .v (.fn 20), x12, x13, .no]) s := by
  kernel_rfl
theorem m_tail (x0 x1 x9 x10 x11 x12 x13 : Sl) (s : S) : exSs (calF ds 12) tailL 12 [x0, x1, .no, .no, .no, .no, .no, .no, .no, x9, x10, x11, x12, x13, .no] s = .ok (.rt (.bl true)) s := by
  kernel_rfl
theorem m_n (hm : ∀ n T, GoodW n T → holesL n T = lawL n T) {j m : Nat} {x0 x1 x10 x11 x12 x13 : Sl} {s : S} (h : Dk j s m) (hb : m ≤ 1000) : ∃ (y10 y12 y13 : Sl) (s' : S), exS (calF ds 12) stN 12 [x0, x1, .no, .no, .no, .no, .no, .no, .no, .v (.box j), x10, x11, x12, x13, .no] s =
    .ok (.nx [x0, x1, .no, .no, .no, .no, .no, .no, .no, .v (.box j), y10, x11, y12, y13, .no]) s' := by
  obtain ⟨v, s1, e1, v1, k1⟩ := m_pick (k := 11) (size := 5) h (by omega) (by omega) (by omega)
  have e1 : calD ds 12 22 [.box j, .int 5] s = .ok (.int (v : Int)) s1 := e1
  simp only [startR, exSs, exS, evE, evEs, evI, evO, evC, getR_0, getR_s, setR, tgR, wipeR, idx_tup, idx_lst, idx_dW0, idx_dW1, bi_len_t, bi_len_l, bi_all, bi_any, bi_min2, bi_max2, bi_tuple_l, bi_tuple_t, bi_list_l, bi_list_t, bi_int, bi_srt_l, bi_srt_t, bi_sset, bi_ssetT, chkB_bl, seq_t, seq_l, b_add, b_sub, ty_non, ty_bl, ty_int, ty_str, ty_tup, ty_lst, ty_dW, List.map_cons, List.map_nil, List.cons_append, List.nil_append, List.replicate_succ, List.replicate_zero, List.length_cons, List.length_nil, List.set_cons_zero, List.set_cons_succ, bnd_ok, bnd_bnd, noex_ok, opt_some, Option.map_some, Option.bind_some, List.getElem?_cons_zero, List.getElem?_cons_succ, ixD_0, ixD_1, ixD_2, cmpD_in, cmpD_inL, cmpD_not, cmpD_notL, cmpD_eq, cmpD_ne, cmpD_lt, cmpD_gt, cmpD_le, cmpD_ge, big0, big1, big2, big3, big4, big5, big6, big7, if_true, if_false, Nat.reduceAdd, Nat.reduceSub, Nat.reduceLT, ↓reduceIte, dec_lt, dec_le, dec_eq, eq_int, lst_of, Bool.false_eq_true, stN, cellB, b_law, e1]
  refine for_cntE (G := fun o => ∃ (y10 y12 y13 : Sl) (s' : S), o = .ok (Fl.nx [x0, x1, .no, .no, .no, .no, .no, .no, .no, .v (.box j), y10, x11, y12, y13, .no]) s')
    (P := fun k r s => (∃ x10 x12 x13, r = [x0, x1, .no, .no, .no, .no, .no, .no, .no, .v (.box j), x10, x11, x12, x13, .no]) ∧ ∃ m, Dk j s m ∧ m + 200 * k ≤ 1401) ?_ (fun d hd k r s h => ?_) (fun r s h => ?_)
  · exact ⟨⟨_, _, _, rfl⟩, m + 1, k1, by show m + 1 + 200 * 2 ≤ 1401; omega⟩
  · obtain ⟨⟨x10, x12, x13, rfl⟩, m, k0, hk⟩ := h
    obtain ⟨n, rfl, n0, n6⟩ : ∃ n : Nat, d = .int (n : Int) ∧ 1 ≤ n ∧ n ≤ 6 := by
      have hd : d = .int (1 + (v : Int)) ∨ d = .int 6 := by simpa using hd
      rcases hd with e | e
      · exact ⟨1 + v, by rw [e]; first | rfl | (congr 1; omega), by omega, by omega⟩
      · exact ⟨6, e, by omega, by omega⟩
    obtain ⟨T, s2, e2, G, k2⟩ := m_lweb (k := 9) (n := n) k0 (by omega) n0 (by omega)
    have e2 : calD ds 12 28 [.box j, .int (n : Int)] s = .ok (dW n T) s2 := e2
    have q1 : calD ds 12 19 [dW n T] s2 = .ok ((firstD' T (goodS n T)).getD .non) s2 := m_struck (k := 4) n6 G
    have q2 : calD ds 12 20 [dW n T] s2 = .ok ((firstD' (cT n T) (goodA n T)).getD .non) s2 := m_put (k := 4) n6 G
    have q3 : calD ds 12 36 [dW n T, .bl true] s2 = .ok ((firstD' T (goodS n T)).getD .non) s2 := m_lfirstS hm (k := 7) n6 G
    have q4 : calD ds 12 36 [dW n T, .bl false] s2 = .ok ((firstD' (cT n T) (goodA n T)).getD .non) s2 := m_lfirstP hm (k := 7) n6 G
    have t1 : Th 49 2 ((firstD' T (goodS n T)).getD .non) := first_th (T15 n6 G)
    have t2 : Th 49 2 ((firstD' (cT n T) (goodA n T)).getD .non) := first_th (T15 n6 (good_cT G))
    generalize (firstD' T (goodS n T)).getD .non = d1 at q1 q3 t1
    generalize (firstD' (cT n T) (goodA n T)).getD .non = d2 at q2 q4 t2
    have tL : Th 49 3 (.lst [d1, d2]) := (th_lst (by omega)).mpr ⟨fun x hx => by
      have hx : x = d1 ∨ x = d2 := by simpa using hx
      rcases hx with e | e <;> rw [e]
      · exact t1
      · exact t2, by show 2 ≤ 49; omega⟩
    have q5 : calD ds 12 24 [.lst [d1, d2], .lst [d1, d2]] s2 = .ok (.bl true) s2 := m_same 3 _ tL.2.2 tL.1 7
    refine ⟨[x0, x1, .no, .no, .no, .no, .no, .no, .no, .v (.box j), .v (.int (n : Int)), x11, .v (dW n T), .v (.lst [d1, d2]), .no], s2, ?_, ⟨_, _, _, rfl⟩, m + 200, k2, by omega⟩
    simp only [startR, exSs, exS, evE, evEs, evI, evO, evC, getR_0, getR_s, setR, tgR, wipeR, idx_tup, idx_lst, idx_dW0, idx_dW1, bi_len_t, bi_len_l, bi_all, bi_any, bi_min2, bi_max2, bi_tuple_l, bi_tuple_t, bi_list_l, bi_list_t, bi_int, bi_srt_l, bi_srt_t, bi_sset, bi_ssetT, chkB_bl, seq_t, seq_l, b_add, b_sub, ty_non, ty_bl, ty_int, ty_str, ty_tup, ty_lst, ty_dW, List.map_cons, List.map_nil, List.cons_append, List.nil_append, List.replicate_succ, List.replicate_zero, List.length_cons, List.length_nil, List.set_cons_zero, List.set_cons_succ, bnd_ok, bnd_bnd, noex_ok, opt_some, Option.map_some, Option.bind_some, List.getElem?_cons_zero, List.getElem?_cons_succ, ixD_0, ixD_1, ixD_2, cmpD_in, cmpD_inL, cmpD_not, cmpD_notL, cmpD_eq, cmpD_ne, cmpD_lt, cmpD_gt, cmpD_le, cmpD_ge, big0, big1, big2, big3, big4, big5, big6, big7, if_true, if_false, Nat.reduceAdd, Nat.reduceSub, Nat.reduceLT, ↓reduceIte, dec_lt, dec_le, dec_eq, eq_int, lst_of, Bool.false_eq_true, e2, q1, q2, q3, q4, q5, Bool.not_true]
  · obtain ⟨⟨x10, x12, x13, rfl⟩, _⟩ := h
    exact ⟨x10, x12, x13, s, rfl⟩
theorem m_law (hm : ∀ n T, GoodW n T → holesL n T = lawL n T) (ns : List Int) (hl : ns.length ≤ 63) : ∃ s', calD ds 13 37 [.lst (ns.map .int)] [] = .ok (.bl true) s' := by
  rw [cal_at (d := d_law) rfl rfl, law_eq]
  have hadd : binD .add (.lst [.int 0]) (.lst (ns.map .int)) = some (.lst (.int 0 :: ns.map .int)) := by
    rw [b_addL (by rw [List.length_map, List.length_singleton]; unfold big; omega)]; rfl
  have hint : ∀ d ∈ cutD (.int 0 :: ns.map .int) none (some 6), ∃ i, d = .int i := fun d hd => by
    rcases List.mem_cons.mp (cut_ints _ _ _ d hd) with e | e
    · exact ⟨0, e⟩
    · obtain ⟨i, _, rfl⟩ := List.mem_map.mp e
      exact ⟨i, rfl⟩
  simp only [startR, exSs, exS, evE, evEs, evI, evO, evC, getR_0, getR_s, setR, tgR, wipeR, idx_tup, idx_lst, idx_dW0, idx_dW1, bi_len_t, bi_len_l, bi_all, bi_any, bi_min2, bi_max2, bi_tuple_l, bi_tuple_t, bi_list_l, bi_list_t, bi_int, bi_srt_l, bi_srt_t, bi_sset, bi_ssetT, chkB_bl, seq_t, seq_l, b_add, b_sub, ty_non, ty_bl, ty_int, ty_str, ty_tup, ty_lst, ty_dW, List.map_cons, List.map_nil, List.cons_append, List.nil_append, List.replicate_succ, List.replicate_zero, List.length_cons, List.length_nil, List.set_cons_zero, List.set_cons_succ, bnd_ok, bnd_bnd, noex_ok, opt_some, Option.map_some, Option.bind_some, List.getElem?_cons_zero, List.getElem?_cons_succ, ixD_0, ixD_1, ixD_2, cmpD_in, cmpD_inL, cmpD_not, cmpD_notL, cmpD_eq, cmpD_ne, cmpD_lt, cmpD_gt, cmpD_le, cmpD_ge, big0, big1, big2, big3, big4, big5, big6, big7, if_true, if_false, Nat.reduceAdd, Nat.reduceSub, Nat.reduceLT, ↓reduceIte, dec_lt, dec_le, dec_eq, eq_int, lst_of, Bool.false_eq_true, d_law, hadd, slL, cell_eq]
  refine for_cntG (G := fun o => ∃ s', o = .ok (D.bl true) s') (P := fun _ r s => ∃ x1 x9 x10 x11 x12 x13, r = [Sl.v (.lst (ns.map .int)), x1, .no, .no, .no, .no, .no, .no, .no, x9, x10, x11, x12, x13, .no]) ⟨_, _, _, _, _, _, rfl⟩ (fun d hd _ r s h => ?_) (fun r s h => ?_)
  · obtain ⟨x1, x9, x10, x11, x12, x13, rfl⟩ := h
    obtain ⟨cell, rfl⟩ := hint d hd
    obtain ⟨s1, e2, k2⟩ := m_deck (k := 11) (cell := cell) (s := s)
    have e2 : calD ds 12 21 [.int cell, .int 9] s = .ok (.box s.length) s1 := e2
    generalize s.length = j at e2 k2
    obtain ⟨y10, y12, y13, s2, e3⟩ := m_n hm (x0 := .v (.lst (ns.map .int))) (x1 := .v (.int cell)) (x10 := x10) (x11 := x11) (x12 := x12) (x13 := x13) k2 (by omega)
    refine ⟨[.v (.lst (ns.map .int)), .v (.int cell), .no, .no, .no, .no, .no, .no, .no, .v (.box j), y10, .v (.fn 20), y12, y13, .no], s2, ?_, _, _, _, _, _, _, rfl⟩
    simp only [startR, exSs, exS, evE, evEs, evI, evO, evC, getR_0, getR_s, setR, tgR, wipeR, idx_tup, idx_lst, idx_dW0, idx_dW1, bi_len_t, bi_len_l, bi_all, bi_any, bi_min2, bi_max2, bi_tuple_l, bi_tuple_t, bi_list_l, bi_list_t, bi_int, bi_srt_l, bi_srt_t, bi_sset, bi_ssetT, chkB_bl, seq_t, seq_l, b_add, b_sub, ty_non, ty_bl, ty_int, ty_str, ty_tup, ty_lst, ty_dW, List.map_cons, List.map_nil, List.cons_append, List.nil_append, List.replicate_succ, List.replicate_zero, List.length_cons, List.length_nil, List.set_cons_zero, List.set_cons_succ, bnd_ok, bnd_bnd, noex_ok, opt_some, Option.map_some, Option.bind_some, List.getElem?_cons_zero, List.getElem?_cons_succ, ixD_0, ixD_1, ixD_2, cmpD_in, cmpD_inL, cmpD_not, cmpD_notL, cmpD_eq, cmpD_ne, cmpD_lt, cmpD_gt, cmpD_le, cmpD_ge, big0, big1, big2, big3, big4, big5, big6, big7, if_true, if_false, Nat.reduceAdd, Nat.reduceSub, Nat.reduceLT, ↓reduceIte, dec_lt, dec_le, dec_eq, eq_int, lst_of, Bool.false_eq_true, e2, e3, m_call]
  · obtain ⟨x1, x9, x10, x11, x12, x13, rfl⟩ := h
    exact ⟨s, by simp only [m_tail, bnd_ok]⟩
end Tw.K09
end
section
/-! Holes: two ways to list them agree. -/
namespace Tw
open PySem
def gN (r : List Nat) (i : Nat) : Nat := r.getD i 0
theorem gN_mem {r : List Nat} {i : Nat} (h : i < r.length) : gN r i ∈ r := by
  unfold gN
  rw [List.getD_eq_getElem?_getD, List.getElem?_eq_getElem h]
  exact List.getElem_mem h
theorem gN_ex {r : List Nat} {a : Nat} (h : a ∈ r) : ∃ i, i < r.length ∧ gN r i = a := by
  obtain ⟨i, hi, e⟩ := List.getElem_of_mem h
  exact ⟨i, hi, by unfold gN; rw [List.getD_eq_getElem?_getD, List.getElem?_eq_getElem hi]; exact e⟩
theorem gN_inj {r : List Nat} (nd : r.Nodup) {i j : Nat} (hi : i < r.length) (hj : j < r.length) (h : gN r i = gN r j) : i = j := by
  unfold gN at h
  rw [List.getD_eq_getElem?_getD, List.getD_eq_getElem?_getD, List.getElem?_eq_getElem hi, List.getElem?_eq_getElem hj] at h
  exact (List.getElem_inj nd).mp h
theorem gN_lt {r : List Nat} {b i : Nat} (h : i < r.length) : gN (r ++ [b]) i = gN r i := by
  unfold gN
  rw [List.getD_eq_getElem?_getD, List.getD_eq_getElem?_getD, List.getElem?_append_left h]
theorem gN_at {r : List Nat} {b : Nat} : gN (r ++ [b]) r.length = b := by
  unfold gN
  rw [List.getD_eq_getElem?_getD, List.getElem?_append_right (Nat.le_refl _)]
  simp
theorem headN_g (r : List Nat) : headN r = gN r 0 := by cases r <;> rfl
theorem sndN_g (r : List Nat) : sndN r = gN r 1 := rfl
theorem lastN_g (r : List Nat) : lastN r = gN r (r.length - 1) := by
  unfold lastN gN
  rw [List.getLast?_eq_getElem?, List.getD_eq_getElem?_getD]
theorem midN_mem {r : List Nat} {c : Nat} : c ∈ midN r ↔ ∃ i, 1 ≤ i ∧ i + 1 < r.length ∧ gN r i = c := by
  unfold midN
  constructor
  · intro h
    obtain ⟨i, hi, e⟩ := List.getElem_of_mem h
    have hl : i < r.length - 1 ∧ i < r.length - 2 := by simp at hi; omega
    refine ⟨i + 1, by omega, by omega, ?_⟩
    unfold gN
    rw [List.getD_eq_getElem?_getD, List.getElem?_eq_getElem (show i + 1 < r.length by omega)]
    rw [List.getElem_take, List.getElem_drop] at e
    rw [← e]
    simp [Nat.add_comm]
  · rintro ⟨i, h1, h2, rfl⟩
    have hi : i - 1 < ((r.drop 1).take (r.length - 2)).length := by simp; omega
    have e : ((r.drop 1).take (r.length - 2))[i - 1] = gN r i := by
      rw [List.getElem_take, List.getElem_drop]
      unfold gN
      rw [List.getD_eq_getElem?_getD, List.getElem?_eq_getElem (show i < r.length by omega)]
      simp [show 1 + (i - 1) = i by omega]
    rw [← e]
    exact List.getElem_mem hi
theorem adj_sym (T : List (Nat × Nat)) (a b : Nat) : adj T a b = adj T b a := by unfold adj; rw [Nat.min_comm, Nat.max_comm]
structure Path (n : Nat) (T : List (Nat × Nat)) (r : List Nat) : Prop where
  ne : 0 < r.length
  nd : r.Nodup
  lt : ∀ a ∈ r, a < n
  aj : ∀ i j, i < j → j < r.length → (adj T (gN r i) (gN r j) = true ↔ j = i + 1)
  hd : ∀ i, 0 < i → i < r.length → gN r 0 < gN r i
structure Hole (n : Nat) (T : List (Nat × Nat)) (r : List Nat) : Prop where
  len : 5 ≤ r.length
  nd : r.Nodup
  lt : ∀ a ∈ r, a < n
  aj : ∀ i j, i < j → j < r.length → (adj T (gN r i) (gN r j) = true ↔ (j = i + 1 ∨ (i = 0 ∧ j + 1 = r.length)))
  hd : ∀ i, 0 < i → i < r.length → gN r 0 < gN r i
  od : gN r 1 < gN r (r.length - 1)
/-- what the search asks of the next place -/
structure Nx (n : Nat) (T : List (Nat × Nat)) (row : List Nat) (b : Nat) : Prop where
  lt : b < n
  aj : adj T (lastN row) b = true
  no : b ∉ row
  md : ∀ c ∈ midN row, adj T b c = false
  hd : headN row < b
theorem nd_snoc {r : List Nat} {b : Nat} : (r ++ [b]).Nodup ↔ r.Nodup ∧ b ∉ r := by
  rw [List.nodup_append]
  constructor
  · rintro ⟨h1, _, h2⟩
    exact ⟨h1, fun h => h2 b h b (by simp) rfl⟩
  · rintro ⟨h1, h2⟩
    exact ⟨h1, by simp, fun a ha c hc e => h2 (by rw [← (show c = b by simpa using hc), ← e]; exact ha)⟩
section
variable {n : Nat} {T : List (Nat × Nat)} {row : List Nat} {b : Nat}
theorem path_init (h : Path n T (row ++ [b])) (h0 : 0 < row.length) : Path n T row := by
  have hl : (row ++ [b]).length = row.length + 1 := by simp
  refine ⟨h0, (nd_snoc.mp h.nd).1, fun a ha => h.lt a (List.mem_append_left _ ha), fun i j hij hj => ?_, fun i h1 h2 => ?_⟩
  · have := h.aj i j hij (by omega)
    rw [gN_lt (by omega), gN_lt hj] at this
    exact this
  · have := h.hd i h1 (by omega)
    rw [gN_lt h0, gN_lt h2] at this
    exact this
theorem nx_of_path (h : Path n T (row ++ [b])) (h0 : 0 < row.length) : Nx n T row b ∧ (row.length = 1 ∨ adj T (headN row) b = false) := by
  have hl : (row ++ [b]).length = row.length + 1 := by simp
  have key : ∀ i, i < row.length → (adj T (gN row i) b = true ↔ row.length = i + 1) := fun i hi => by
    have := h.aj i row.length hi (by omega)
    rw [gN_lt hi, gN_at] at this
    exact this
  have hh := h.hd row.length h0 (by omega)
  rw [gN_lt h0, gN_at] at hh
  refine ⟨⟨h.lt b (by simp), ?_, (nd_snoc.mp h.nd).2, fun c hc => ?_, by rw [headN_g]; exact hh⟩, ?_⟩
  · rw [lastN_g]; exact (key _ (by omega)).mpr (by omega)
  · obtain ⟨i, h1, h2, rfl⟩ := midN_mem.mp hc
    rw [adj_sym]
    cases e : adj T (gN row i) b with
    | false => rfl
    | true => have := (key i (by omega)).mp e; omega
  · by_cases z : row.length = 1
    · exact .inl z
    · right
      rw [headN_g]
      cases e : adj T (gN row 0) b with
      | false => rfl
      | true => have := (key 0 h0).mp e; omega
theorem path_of_nx (p : Path n T row) (h : Nx n T row b) (hc : row.length = 1 ∨ adj T (headN row) b = false) : Path n T (row ++ [b]) := by
  have hl : (row ++ [b]).length = row.length + 1 := by simp
  refine ⟨by omega, nd_snoc.mpr ⟨p.nd, h.no⟩, fun a ha => ?_, fun i j hij hj => ?_, fun i h1 h2 => ?_⟩
  · rcases List.mem_append.mp ha with z | z
    · exact p.lt a z
    · rw [show a = b by simpa using z]; exact h.lt
  · by_cases z : j < row.length
    · rw [gN_lt (by omega), gN_lt z]; exact p.aj i j hij z
    · have e : j = row.length := by omega
      subst e
      rw [gN_lt hij, gN_at]
      constructor
      · intro ha
        by_cases q : i + 1 = row.length
        · omega
        · exfalso
          by_cases q0 : i = 0
          · subst q0
            rcases hc with hc | hc
            · omega
            · rw [headN_g] at hc; rw [hc] at ha; cases ha
          · have := h.md (gN row i) (midN_mem.mpr ⟨i, by omega, by omega, rfl⟩)
            rw [adj_sym] at this
            rw [this] at ha; cases ha
      · intro e
        have := h.aj
        rw [lastN_g, show row.length - 1 = i by omega] at this
        exact this
  · by_cases z : i < row.length
    · rw [gN_lt p.ne, gN_lt z]; exact p.hd i h1 z
    · have e : i = row.length := by omega
      subst e
      rw [gN_lt p.ne, gN_at, ← headN_g]; exact h.hd
theorem hole_init (h : Hole n T (row ++ [b])) : Path n T row := by
  have hl : (row ++ [b]).length = row.length + 1 := by simp
  have h5 := h.len
  refine ⟨by omega, (nd_snoc.mp h.nd).1, fun a ha => h.lt a (List.mem_append_left _ ha), fun i j hij hj => ?_, fun i h1 h2 => ?_⟩
  · have := h.aj i j hij (by omega)
    rw [gN_lt (by omega), gN_lt hj] at this
    rw [this]
    constructor
    · rintro (q | q)
      · exact q
      · omega
    · exact .inl
  · have := h.hd i h1 (by omega)
    rw [gN_lt (by omega), gN_lt h2] at this
    exact this
theorem nx_of_hole (h : Hole n T (row ++ [b])) : Nx n T row b ∧ adj T (headN row) b = true ∧ sndN row < b := by
  have hl : (row ++ [b]).length = row.length + 1 := by simp
  have h5 := h.len
  have key : ∀ i, i < row.length → (adj T (gN row i) b = true ↔ (row.length = i + 1 ∨ i = 0)) := fun i hi => by
    have := h.aj i row.length hi (by omega)
    rw [gN_lt hi, gN_at] at this
    rw [this]
    constructor
    · rintro (q | q)
      · exact .inl q
      · exact .inr q.1
    · rintro (q | q)
      · exact .inl q
      · exact .inr ⟨q, by omega⟩
  have hh := h.hd row.length (by omega) (by omega)
  rw [gN_lt (by omega), gN_at] at hh
  have ho := h.od
  rw [show (row ++ [b]).length - 1 = row.length by omega, gN_lt (by omega), gN_at] at ho
  refine ⟨⟨h.lt b (by simp), ?_, (nd_snoc.mp h.nd).2, fun c hc => ?_, by rw [headN_g]; exact hh⟩, ?_, ho⟩
  · rw [lastN_g]; exact (key _ (by omega)).mpr (by omega)
  · obtain ⟨i, h1, h2, rfl⟩ := midN_mem.mp hc
    rw [adj_sym]
    cases e : adj T (gN row i) b with
    | false => rfl
    | true => have := (key i (by omega)).mp e; omega
  · rw [headN_g]; exact (key 0 (by omega)).mpr (.inr rfl)
theorem hole_of_nx (p : Path n T row) (h : Nx n T row b) (h5 : 4 ≤ row.length) (hc : adj T (headN row) b = true) (ho : sndN row < b) : Hole n T (row ++ [b]) := by
  have hl : (row ++ [b]).length = row.length + 1 := by simp
  refine ⟨by omega, nd_snoc.mpr ⟨p.nd, h.no⟩, fun a ha => ?_, fun i j hij hj => ?_, fun i h1 h2 => ?_, ?_⟩
  · rcases List.mem_append.mp ha with z | z
    · exact p.lt a z
    · rw [show a = b by simpa using z]; exact h.lt
  · by_cases z : j < row.length
    · rw [gN_lt (by omega), gN_lt z, p.aj i j hij z]
      constructor
      · exact .inl
      · rintro (q | q)
        · exact q
        · omega
    · have e : j = row.length := by omega
      subst e
      rw [gN_lt hij, gN_at]
      constructor
      · intro ha
        by_cases q : i + 1 = row.length
        · exact .inl q.symm
        · by_cases q0 : i = 0
          · exact .inr ⟨q0, by omega⟩
          · have := h.md (gN row i) (midN_mem.mpr ⟨i, by omega, by omega, rfl⟩)
            rw [adj_sym] at this
            rw [this] at ha; cases ha
      · rintro (e | ⟨e, _⟩)
        · have := h.aj
          rw [lastN_g, show row.length - 1 = i by omega] at this
          exact this
        · subst e; rw [← headN_g]; exact hc
  · by_cases z : i < row.length
    · rw [gN_lt p.ne, gN_lt z]; exact p.hd i h1 z
    · have e : i = row.length := by omega
      subst e
      rw [gN_lt p.ne, gN_at, ← headN_g]; exact h.hd
  · rw [show (row ++ [b]).length - 1 = row.length by omega, gN_lt (by omega), gN_at]; exact ho
end
/-! ### the search's list -/
def ltK (r q : List Nat) : Prop := r.length < q.length ∨ (r.length = q.length ∧ ltB (dR r) (dR q) = true)
theorem insR_mem {x y : List Nat} : ∀ {l : List (List Nat)}, y ∈ insR x l ↔ y = x ∨ y ∈ l
  | [] => by simp [insR]
  | z :: l => by
    unfold insR
    split
    · rw [List.mem_cons, insR_mem, List.mem_cons]
      constructor
      · rintro (h | h | h)
        · exact .inr (.inl h)
        · exact .inl h
        · exact .inr (.inr h)
      · rintro (h | h | h)
        · exact .inr (.inl h)
        · exact .inl h
        · exact .inr (.inr h)
    · simp
theorem srtR_mem {y : List Nat} : ∀ {l : List (List Nat)}, y ∈ srtR l ↔ y ∈ l
  | [] => by simp [srtR]
  | x :: l => by unfold srtR; rw [insR_mem, srtR_mem, List.mem_cons]
/-- sorted things of one kind, each once: strictly -/
theorem strict {f : List Nat → D} (ho : ∀ r, ordD (f r) = true) (hf : ∀ a b, f a = f b → a = b) {l m : List (List Nat)} (nd : l.Nodup) (e : sortD (l.map f) = m.map f) : m.Pairwise fun a b => ltB (f a) (f b) = true := by
  have h1 : Srt (m.map f) := by rw [← e]; exact sortD_srt fun x hx => by obtain ⟨r, _, rfl⟩ := List.mem_map.mp hx; exact ho r
  have h2 : (m.map f).Nodup := by
    rw [← e]
    refine (sortD_perm _).nodup_iff.mpr ?_
    exact List.Pairwise.map _ (fun a b hne h => hne (hf a b h)) nd
  have h3 := List.pairwise_map.mp (List.Pairwise.and h1 h2)
  refine h3.imp fun {a b} z => ?_
  cases q : ltB (f a) (f b) with
  | true => rfl
  | false => exact (z.2 (ltB_eq (ho a) (ho b) q z.1)).elim
theorem ext_iff {n : Nat} {T : List (Nat × Nat)} {row r : List Nat} : r ∈ ext n T row ↔ ∃ b, r = row ++ [b] ∧ b < n ∧ adj T (lastN row) b = true ∧ b ∉ row ∧ ∀ c ∈ midN row, adj T b c = false := by
  refine ⟨ext_mem, ?_⟩
  rintro ⟨b, rfl, h1, h2, h3, h4⟩
  unfold ext
  refine List.mem_map.mpr ⟨b, List.mem_filter.mpr ⟨List.mem_filter.mpr ⟨List.mem_filter.mpr ⟨by simpa using h1, h2⟩, decide_eq_true h3⟩, ?_⟩, rfl⟩
  have : ((midN row).any fun c => adj T b c) = false := by
    rw [List.any_eq_false]
    intro c hc e
    rw [h4 c hc] at e; cases e
  rw [this]; rfl
theorem ext_nd (n : Nat) (T : List (Nat × Nat)) (row : List Nat) : (ext n T row).Nodup := by
  unfold ext
  refine List.Pairwise.map _ (fun a b hne h => hne ?_) (((List.nodup_range.filter _).filter _).filter _)
  have := List.append_cancel_left h
  simpa using this
theorem flat_nd {n : Nat} {T : List (Nat × Nat)} : ∀ {R : List (List Nat)}, R.Nodup → (R.flatMap (ext n T)).Nodup
  | [], _ => List.nodup_nil
  | r :: R, h => by
    obtain ⟨h1, h2⟩ := List.nodup_cons.mp h
    rw [List.flatMap_cons]
    refine List.nodup_append.mpr ⟨ext_nd n T r, flat_nd h2, fun a ha b hb e => ?_⟩
    subst e
    obtain ⟨x, e1, _⟩ := ext_iff.mp ha
    obtain ⟨q, hq, hb⟩ := List.mem_flatMap.mp hb
    obtain ⟨y, e2, _⟩ := ext_iff.mp hb
    rw [e1] at e2
    have := (List.append_inj' e2 rfl).1
    exact h1 (by rw [this]; exact hq)
theorem last_snoc (row : List Nat) (b : Nat) : lastN (row ++ [b]) = b := by unfold lastN; simp
theorem head_snoc {row : List Nat} {b : Nat} (h : 0 < row.length) : headN (row ++ [b]) = headN row := by
  rw [headN_g, headN_g, gN_lt h]
theorem snd_snoc {row : List Nat} {b : Nat} (h : 1 < row.length) : sndN (row ++ [b]) = sndN row := by
  rw [sndN_g, sndN_g, gN_lt h]
theorem snoc_of {r : List Nat} (h : 0 < r.length) : ∃ row b, r = row ++ [b] := by
  refine ⟨r.dropLast, r.getLast (fun e => by rw [e] at h; simp at h), ?_⟩
  exact (List.dropLast_concat_getLast _).symm
structure FoldOk (n : Nat) (T : List (Nat × Nat)) (d : Nat) (st : List (List Nat) × List (List Nat)) : Prop where
  rows : ∀ r, r ∈ st.2 ↔ r.length = d + 1 ∧ Path n T r
  found : ∀ r, r ∈ st.1 ↔ r.length ≤ d + 1 ∧ Hole n T r
  srt : st.1.Pairwise ltK
  nd : st.2.Nodup
theorem fold0 (n : Nat) (T : List (Nat × Nat)) : FoldOk n T 0 ([], (List.range n).map fun a => [a]) where
  rows := fun r => by
    constructor
    · intro h
      obtain ⟨a, ha, rfl⟩ := List.mem_map.mp h
      refine ⟨rfl, ⟨by simp, by simp, fun b hb => ?_, fun i j h1 h2 => by simp at h2; omega, fun i h1 h2 => by simp at h2; omega⟩⟩
      rw [show b = a by simpa using hb]; simpa using ha
    · rintro ⟨hl, h⟩
      match r, hl with
      | [a], _ => exact List.mem_map.mpr ⟨a, by simpa using h.lt a (.head _), rfl⟩
  found := fun r => by
    constructor
    · intro h; cases h
    · rintro ⟨h1, h2⟩
      have := h2.len
      omega
  srt := .nil
  nd := List.Pairwise.map _ (fun a b hne h => hne (by simpa using h)) List.nodup_range
theorem fold_step {n d : Nat} {T : List (Nat × Nat)} {st : List (List Nat) × List (List Nat)} (F : FoldOk n T d st) : FoldOk n T (d + 1) (hStep n T st d) := by
  obtain ⟨Fd, R⟩ := st
  have nx : ∀ r, r ∈ (R.flatMap (ext n T)).filter (fun r => decide (headN r < lastN r)) ↔ ∃ row b, r = row ++ [b] ∧ row.length = d + 1 ∧ Path n T row ∧ Nx n T row b := fun r => by
    rw [List.mem_filter, List.mem_flatMap]
    constructor
    · rintro ⟨⟨row, hr, he⟩, hh⟩
      obtain ⟨hl, p⟩ := (F.rows row).mp hr
      obtain ⟨b, rfl, h1, h2, h3, h4⟩ := ext_iff.mp he
      have hh := of_decide_eq_true hh
      rw [last_snoc, head_snoc p.ne] at hh
      exact ⟨row, b, rfl, hl, p, h1, h2, h3, h4, hh⟩
    · rintro ⟨row, b, rfl, hl, p, h⟩
      refine ⟨⟨row, (F.rows row).mpr ⟨hl, p⟩, ext_iff.mpr ⟨b, rfl, h.lt, h.aj, h.no, h.md⟩⟩, decide_eq_true ?_⟩
      rw [last_snoc, head_snoc p.ne]; exact h.hd
  have nd1 : ((R.flatMap (ext n T)).filter (fun r => decide (headN r < lastN r))).Nodup := (flat_nd F.nd).filter _
  unfold hStep
  dsimp only
  generalize hR1 : (R.flatMap (ext n T)).filter (fun r => decide (headN r < lastN r)) = R1 at nx nd1
  have hS : ∀ r, r ∈ srtR (R1.filter fun r => adj T (headN r) (lastN r) && decide (sndN r < lastN r)) ↔ ∃ row b, r = row ++ [b] ∧ row.length = d + 1 ∧ Path n T row ∧ Nx n T row b ∧ adj T (headN row) b = true ∧ sndN (row ++ [b]) < b := fun r => by
    rw [srtR_mem, List.mem_filter, nx]
    constructor
    · rintro ⟨⟨row, b, rfl, h1, h2, h3⟩, h4⟩
      obtain ⟨h5, h6⟩ := oa h4
      rw [last_snoc, head_snoc h2.ne] at h5
      have h6 := of_decide_eq_true h6
      rw [last_snoc] at h6
      exact ⟨row, b, rfl, h1, h2, h3, h5, h6⟩
    · rintro ⟨row, b, rfl, h1, h2, h3, h5, h6⟩
      refine ⟨⟨row, b, rfl, h1, h2, h3⟩, ?_⟩
      rw [last_snoc, head_snoc h2.ne, h5, decide_eq_true h6]; rfl
  refine ⟨fun r => ?_, fun r => ?_, ?_, nd1.filter _⟩
  · rw [List.mem_filter, nx]
    constructor
    · rintro ⟨⟨row, b, rfl, h1, h2, h3⟩, h4⟩
      refine ⟨by simp [h1], path_of_nx h2 h3 ?_⟩
      rcases Bool.or_eq_true_iff.mp h4 with z | z
      · left; have := of_decide_eq_true z; omega
      · right
        rw [last_snoc, head_snoc h2.ne] at z
        simpa using z
    · rintro ⟨hl, h⟩
      obtain ⟨row, b, rfl⟩ := snoc_of h.ne
      have h1 : row.length = d + 1 := by simpa using hl
      have h2 := path_init h (by omega)
      obtain ⟨h3, h4⟩ := nx_of_path h (by omega)
      refine ⟨⟨row, b, rfl, h1, h2, h3⟩, ?_⟩
      rw [last_snoc, head_snoc h2.ne]
      rcases h4 with z | z
      · rw [decide_eq_true (show d + 2 = 2 by omega)]; rfl
      · rw [z]; simp
  · by_cases h5 : 5 ≤ d + 2
    · rw [if_pos h5, List.mem_append, F.found, hS]
      constructor
      · rintro (⟨h1, h2⟩ | ⟨row, b, rfl, h1, h2, h3, h4, h6⟩)
        · exact ⟨by omega, h2⟩
        · rw [snd_snoc (by omega)] at h6
          exact ⟨by simp [h1], hole_of_nx h2 h3 (by omega) h4 h6⟩
      · rintro ⟨h1, h2⟩
        by_cases z : r.length ≤ d + 1
        · exact .inl ⟨z, h2⟩
        · right
          obtain ⟨row, b, rfl⟩ := snoc_of (show 0 < r.length by omega)
          have hl : row.length = d + 1 := by simp at h1 z; omega
          obtain ⟨q1, q2, q3⟩ := nx_of_hole h2
          exact ⟨row, b, rfl, hl, hole_init h2, q1, q2, by rw [snd_snoc (by omega)]; exact q3⟩
    · rw [if_neg h5, F.found]
      constructor
      · rintro ⟨h1, h2⟩; exact ⟨by omega, h2⟩
      · rintro ⟨h1, h2⟩; have := h2.len; omega
  · by_cases h5 : 5 ≤ d + 2
    · rw [if_pos h5]
      refine List.pairwise_append.mpr ⟨F.srt, ?_, fun a ha b hb => ?_⟩
      · have z := strict ord_dR dR_inj (nd1.filter fun r => adj T (headN r) (lastN r) && decide (sndN r < lastN r)) (sortD_dR _)
        refine List.Pairwise.imp_of_mem (fun {a b} ha hb q => ?_) z
        obtain ⟨r1, b1, rfl, l1, _⟩ := (hS a).mp ha
        obtain ⟨r2, b2, rfl, l2, _⟩ := (hS b).mp hb
        exact .inr ⟨by simp [l1, l2], q⟩
      · have l1 := ((F.found a).mp ha).1
        obtain ⟨r2, b2, rfl, l2, _⟩ := (hS b).mp hb
        exact .inl (by simp [l2]; omega)
    · rw [if_neg h5]; exact F.srt
theorem fold_ok (n : Nat) (T : List (Nat × Nat)) : ∀ d, FoldOk n T d (hFold n T (List.range d))
  | 0 => fold0 n T
  | d + 1 => by
    rw [List.range_succ, hFold_snoc]
    exact fold_step (fold_ok n T d)
theorem holesL_mem {n : Nat} {T : List (Nat × Nat)} (h0 : 1 ≤ n) (r : List Nat) : r ∈ holesL n T ↔ Hole n T r := by
  have F := fold_ok n T (n + 1 - 2)
  unfold holesL
  rw [F.found]
  constructor
  · exact fun h => h.2
  · intro h
    have := nodup_len h.nd h.lt
    exact ⟨by omega, h⟩
theorem holesL_srt (n : Nat) (T : List (Nat × Nat)) : (holesL n T).Pairwise ltK := (fold_ok n T (n + 1 - 2)).srt
end Tw
end
section
/-! Holes: the law's side. -/
namespace Tw
open PySem
theorem two_of {l : List Nat} {a b : Nat} (nd : l.Nodup) (hl : l.length = 2) (ha : a ∈ l) (hb : b ∈ l) (hab : a ≠ b) : ∀ y, y ∈ l ↔ y = a ∨ y = b := by
  match l, hl with
  | [x, z], _ =>
    intro y
    have ha : a = x ∨ a = z := by simpa using ha
    have hb : b = x ∨ b = z := by simpa using hb
    simp only [List.mem_cons, List.not_mem_nil, or_false]
    rcases ha with rfl | rfl <;> rcases hb with rfl | rfl
    · exact (hab rfl).elim
    · exact Iff.rfl
    · exact Or.comm
    · exact (hab rfl).elim
theorem len_two {l : List Nat} {a b : Nat} (nd : l.Nodup) (hab : a ≠ b) (h : ∀ y, y ∈ l ↔ y = a ∨ y = b) : l.length = 2 := by
  have p : l.Perm [a, b] := (List.perm_ext_iff_of_nodup nd (by simpa using hab)).mpr fun y => by rw [h y]; simp
  exact p.length_eq
theorem other_of {l : List Nat} {a : Nat} (nd : l.Nodup) (hl : l.length = 2) (ha : a ∈ l) : ∃ y, y ∈ l ∧ y ≠ a := by
  match l, hl with
  | [x, z], _ =>
    have hxz : x ≠ z := by simpa using nd
    by_cases h : a = x
    · exact ⟨z, by simp, fun e => hxz (by rw [← h, ← e])⟩
    · exact ⟨x, by simp, fun e => h e.symm⟩
section
variable {n : Nat} {T : List (Nat × Nat)} {row : List Nat}
theorem nb_iff (G : GoodW n T) {x y : Nat} : y ∈ nb (T.filter (inB row)) x ↔ x ∈ row ∧ y ∈ row ∧ adj T x y = true := by
  rw [nb_mem]
  constructor
  · rintro ⟨p, hp, h⟩
    obtain ⟨h1, h2⟩ := List.mem_filter.mp hp
    obtain ⟨h3, h4⟩ := oa h2
    have h3 := of_decide_eq_true h3
    have h4 := of_decide_eq_true h4
    obtain ⟨b1, _⟩ := G.bd p h1
    rcases h with ⟨rfl, rfl⟩ | ⟨_, rfl, rfl⟩
    · refine ⟨h3, h4, decide_eq_true ?_⟩
      rw [Nat.min_eq_left (by omega), Nat.max_eq_right (by omega)]; exact h1
    · refine ⟨h4, h3, decide_eq_true ?_⟩
      rw [Nat.min_eq_right (by omega), Nat.max_eq_left (by omega)]; exact h1
  · rintro ⟨h1, h2, h3⟩
    have h3 := of_decide_eq_true h3
    have hb := (G.bd _ h3).1
    refine ⟨(min x y, max x y), List.mem_filter.mpr ⟨h3, ?_⟩, ?_⟩
    · unfold inB
      by_cases z : x ≤ y
      · rw [Nat.min_eq_left z, Nat.max_eq_right z, decide_eq_true h1, decide_eq_true h2]; rfl
      · rw [Nat.min_eq_right (by omega), Nat.max_eq_left (by omega), decide_eq_true h1, decide_eq_true h2]; rfl
    · show (min x y = x ∧ max x y = y) ∨ (min x y ≠ x ∧ max x y = x ∧ min x y = y)
      have hb : min x y < max x y := hb
      omega
theorem adj_irr (G : GoodW n T) (x : Nat) : adj T x x = false := by
  cases h : adj T x x with
  | false => rfl
  | true =>
    have h := of_decide_eq_true h
    have := (G.bd _ h).1
    have : min x x < max x x := this
    omega
theorem T_nd (G : GoodW n T) : T.Nodup := G.srt.imp fun {a b} h e => by subst e; unfold ltP at h; omega
theorem nb_nd (G : GoodW n T) (x : Nat) : (nb (T.filter (inB row)) x).Nodup := by
  unfold nb
  have hnd : ((T.filter (inB row)).filter (atB x)).Nodup := ((T_nd G).filter _).filter _
  have hm : ∀ p ∈ (T.filter (inB row)).filter (atB x), p.1 < p.2 ∧ (p.1 = x ∨ p.2 = x) := fun p hp => by
    obtain ⟨h1, h2⟩ := List.mem_filter.mp hp
    have h2 : x ∈ [p.1, p.2] := of_decide_eq_true h2
    have h2 : x = p.1 ∨ x = p.2 := by simpa using h2
    exact ⟨(G.bd p (List.mem_filter.mp h1).1).1, h2.imp Eq.symm Eq.symm⟩
  refine List.pairwise_map.mpr (List.Pairwise.imp_of_mem (fun {p q} hp hq hne e => hne ?_) hnd)
  obtain ⟨a1, a2⟩ := hm p hp
  obtain ⟨b1, b2⟩ := hm q hq
  unfold othN at e
  refine Prod.ext ?_ ?_
  · split at e <;> split at e <;> omega
  · split at e <;> split at e <;> omega
theorem deg_len (x : Nat) : ((T.filter (inB row)).filter (atB x)).length = (nb (T.filter (inB row)) x).length := by unfold nb; rw [List.length_map]
/-- what is led so far -/
structure LI (U : List (Nat × Nat)) (row : List Nat) (first : Nat) (f : List Nat) : Prop where
  ne : 0 < f.length
  nd : f.Nodup
  sub : ∀ a ∈ f, a ∈ row
  h0 : gN f 0 = first
  ch : ∀ i, i + 1 < f.length → gN f (i + 1) ∈ nb U (gN f i)
  sc : 1 < f.length → ∀ y ∈ nb U first, gN f 1 ≤ y
theorem led_li (G : GoodW n T) {first : Nat} : ∀ (k : Nat) (f : List Nat), LI (T.filter (inB row)) row first f → LI (T.filter (inB row)) row first (ledF (T.filter (inB row)) k f)
  | 0, f, h => h
  | k + 1, f, h => by
    unfold ledF
    cases hq : nxt (T.filter (inB row)) f with
    | nil => exact h
    | cons x l =>
      have hx : x ∈ nxt (T.filter (inB row)) f := by rw [hq]; exact .head _
      have hmin : ∀ y ∈ nxt (T.filter (inB row)) f, x ≤ y := fun y hy => srtN_head y hy x (by unfold nxt at hq; rw [hq]; rfl)
      have mem : ∀ y, y ∈ nxt (T.filter (inB row)) f ↔ y ∈ nb (T.filter (inB row)) (lastN f) ∧ y ∉ f := fun y => by
        unfold nxt
        rw [srtN_mem, List.mem_filter]
        constructor
        · rintro ⟨a, b⟩; exact ⟨a, of_decide_eq_true b⟩
        · rintro ⟨a, b⟩; exact ⟨a, decide_eq_true b⟩
      obtain ⟨x1, x2⟩ := (mem x).mp hx
      refine led_li G k (f ++ [x]) ⟨by simp, nd_snoc.mpr ⟨h.nd, x2⟩, fun a ha => ?_, ?_, fun i hi => ?_, fun _ y hy => ?_⟩
      · rcases List.mem_append.mp ha with z | z
        · exact h.sub a z
        · rw [show a = x by simpa using z]; exact ((nb_iff G).mp x1).2.1
      · rw [gN_lt h.ne]; exact h.h0
      · have hl : (f ++ [x]).length = f.length + 1 := by simp
        by_cases z : i + 1 < f.length
        · rw [gN_lt z, gN_lt (by omega)]; exact h.ch i z
        · have e : f.length = i + 1 := by omega
          rw [show i + 1 = f.length from e.symm, gN_at, gN_lt (by omega)]
          rw [lastN_g, show f.length - 1 = i by omega] at x1
          exact x1
      · by_cases z : 1 < f.length
        · rw [gN_lt z]; exact h.sc z y hy
        · have e : f.length = 1 := by have := h.ne; omega
          have e2 : gN (f ++ [x]) 1 = x := by rw [← e]; exact gN_at
          rw [e2]
          refine hmin y ((mem y).mpr ⟨by rw [lastN_g, e]; show y ∈ nb _ (gN f 0); rw [h.h0]; exact hy, fun hyf => ?_⟩)
          obtain ⟨i, hi, rfl⟩ := gN_ex hyf
          have : i = 0 := by omega
          subst this
          rw [h.h0] at hy
          have := ((nb_iff G).mp hy).2.2
          rw [adj_irr G] at this; cases this
theorem hole_of_led (G : GoodW n T) (hr : row.Sublist (List.range n)) (ok : okR T row = true) : Hole n T (ledR T row) ∧ ∀ y, y ∈ ledR T row ↔ y ∈ row := by
  unfold okR at ok
  obtain ⟨ok1, ok2⟩ := oa ok
  obtain ⟨ok2, ok3⟩ := oa ok2
  have h4 := of_decide_eq_true ok1
  have hdeg := of_decide_eq_true ok2
  have hlen := of_decide_eq_true ok3
  have hnd : row.Nodup := hr.nodup List.nodup_range
  have hlt : ∀ a ∈ row, a < n := fun a ha => by simpa using hr.subset ha
  have hasc : row.Pairwise (· < ·) := List.Pairwise.sublist hr List.pairwise_lt_range
  have hfirst : headN row ∈ row := by rw [headN_g]; exact gN_mem (by omega)
  have hmin : ∀ a ∈ row, headN row ≤ a := fun a ha => by
    cases row with
    | nil => cases ha
    | cons b l =>
      rcases List.mem_cons.mp ha with e | e
      · rw [e]; exact Nat.le_refl _
      · exact Nat.le_of_lt ((List.pairwise_cons.mp hasc).1 a e)
  have deg : ∀ x ∈ row, (nb (T.filter (inB row)) x).length = 2 := fun x hx => by
    have := (List.eq_replicate_iff.mp hdeg).2 _ (List.mem_map_of_mem hx)
    rw [deg_len] at this
    exact this
  have L : LI (T.filter (inB row)) row (headN row) (ledR T row) := led_li G 998 [headN row] ⟨by simp, by simp, fun a ha => by rw [show a = headN row by simpa using ha]; exact hfirst, rfl, fun i hi => by simp at hi, fun hi => by simp at hi⟩
  generalize hw : ledR T row = w at hlen L
  have cov : ∀ y, y ∈ w ↔ y ∈ row := fun y => ⟨L.sub y, fun hy => Classical.byContradiction fun z => by
    have := L2.nat_nodup_len (y :: w) row (List.nodup_cons.mpr ⟨z, L.nd⟩) fun x hx => by
      rcases List.mem_cons.mp hx with e | e
      · rw [e]; exact hy
      · exact L.sub x e
    rw [List.length_cons] at this
    omega⟩
  have inr : ∀ i, i < w.length → gN w i ∈ row := fun i hi => L.sub _ (gN_mem hi)
  have sym : ∀ {x y}, y ∈ nb (T.filter (inB row)) x → x ∈ nb (T.filter (inB row)) y := fun {x y} h => by
    obtain ⟨a, b, c⟩ := (nb_iff G).mp h
    exact (nb_iff G).mpr ⟨b, a, by rw [adj_sym]; exact c⟩
  have inner : ∀ i, 0 < i → i + 1 < w.length → ∀ y, y ∈ nb (T.filter (inB row)) (gN w i) ↔ y = gN w (i - 1) ∨ y = gN w (i + 1) := fun i h1 h2 => by
    refine two_of (nb_nd G _) (deg _ (inr i (by omega))) ?_ (L.ch i h2) fun e => ?_
    · have := L.ch (i - 1) (by omega)
      rw [show i - 1 + 1 = i by omega] at this
      exact sym this
    · have := gN_inj L.nd (by omega) (by omega) e
      omega
  have ends : adj T (gN w 0) (gN w (w.length - 1)) = true := by
    have h1 := L.ch 0 (by omega)
    obtain ⟨y, hy, hne⟩ := other_of (nb_nd G _) (deg _ (inr 0 (by omega))) h1
    obtain ⟨_, hyr, hya⟩ := (nb_iff G).mp hy
    obtain ⟨m, hm, rfl⟩ := gN_ex ((cov y).mpr hyr)
    by_cases e0 : m = 0
    · subst e0; rw [adj_irr G] at hya; cases hya
    by_cases e1 : m = 1
    · subst e1; exact (hne rfl).elim
    by_cases e2 : m + 1 < w.length
    · exfalso
      rcases (inner m (by omega) e2 _).mp (sym hy) with e | e
      · have := gN_inj L.nd (by omega) (by omega) e; omega
      · have := gN_inj L.nd (by omega) (by omega) e; omega
    · rw [show w.length - 1 = m by omega]; exact hya
  refine ⟨⟨by omega, L.nd, fun a ha => hlt a (L.sub a ha), fun i j hij hj => ?_, fun i h1 h2 => ?_, ?_⟩, cov⟩
  · constructor
    · intro ha
      have hij' : gN w j ∈ nb (T.filter (inB row)) (gN w i) := (nb_iff G).mpr ⟨inr i (by omega), inr j hj, ha⟩
      by_cases h0 : 0 < i
      · rcases (inner i h0 (by omega) _).mp hij' with e | e
        · have := gN_inj L.nd hj (by omega) e; omega
        · exact .inl (gN_inj L.nd hj (by omega) e)
      · by_cases hj1 : j + 1 < w.length
        · rcases (inner j (by omega) hj1 _).mp (sym hij') with e | e
          · have := gN_inj L.nd (by omega) (by omega) e; left; omega
          · have := gN_inj L.nd (by omega) (by omega) e; omega
        · exact .inr ⟨by omega, by omega⟩
    · rintro (e | ⟨e1, e2⟩)
      · subst e
        exact ((nb_iff G).mp (L.ch i hj)).2.2
      · subst e1
        rw [show j = w.length - 1 by omega]; exact ends
  · have h3 := hmin _ (inr i h2)
    rw [L.h0]
    have : gN w i ≠ headN row := fun e => by
      rw [← L.h0] at e
      have := gN_inj L.nd h2 (by omega) e
      omega
    omega
  · have h3 := L.sc (by omega) (gN w (w.length - 1)) (by
      rw [← L.h0]
      exact (nb_iff G).mpr ⟨inr 0 (by omega), inr _ (by omega), ends⟩)
    have : gN w 1 ≠ gN w (w.length - 1) := fun e => by
      have := gN_inj L.nd (by omega) (by omega) e
      omega
    omega
/-- a hole's own places -/
def ownR (n : Nat) (r : List Nat) : List Nat := (List.range n).filter fun a => decide (a ∈ r)
theorem ownR_mem {r : List Nat} (hlt : ∀ a ∈ r, a < n) {y : Nat} : y ∈ ownR n r ↔ y ∈ r := by
  unfold ownR
  rw [List.mem_filter]
  constructor
  · exact fun h => of_decide_eq_true h.2
  · exact fun h => ⟨by simpa using hlt y h, decide_eq_true h⟩
theorem take_last {r : List Nat} {i : Nat} (h : i < r.length) : lastN (r.take (i + 1)) = gN r i := by
  rw [lastN_g]
  have hl : (r.take (i + 1)).length = i + 1 := by simp; omega
  rw [hl]
  unfold gN
  rw [List.getD_eq_getElem?_getD, List.getD_eq_getElem?_getD, show i + 1 - 1 = i by omega, List.getElem?_take_of_lt (by omega)]
theorem take_mem {r : List Nat} {i : Nat} {y : Nat} : y ∈ r.take (i + 1) ↔ ∃ j, j ≤ i ∧ j < r.length ∧ gN r j = y := by
  constructor
  · intro h
    obtain ⟨j, hj, e⟩ := List.getElem_of_mem h
    have hj' : j < i + 1 ∧ j < r.length := by simp at hj; omega
    refine ⟨j, by omega, hj'.2, ?_⟩
    rw [List.getElem_take] at e
    unfold gN
    rw [List.getD_eq_getElem?_getD, List.getElem?_eq_getElem hj'.2]; exact e
  · rintro ⟨j, h1, h2, rfl⟩
    have hj : j < (r.take (i + 1)).length := by simp; omega
    have e : (r.take (i + 1))[j] = gN r j := by
      rw [List.getElem_take]
      unfold gN
      rw [List.getD_eq_getElem?_getD, List.getElem?_eq_getElem h2]; rfl
    rw [← e]; exact List.getElem_mem hj
theorem take_snoc {r : List Nat} {i : Nat} (h : i + 1 < r.length) : r.take (i + 2) = r.take (i + 1) ++ [gN r (i + 1)] := by
  rw [show i + 2 = i + 1 + 1 from rfl, List.take_add_one, List.getElem?_eq_getElem h]
  unfold gN
  rw [List.getD_eq_getElem?_getD, List.getElem?_eq_getElem h]; rfl
theorem led_of_hole (G : GoodW n T) {r : List Nat} (h : Hole n T r) : ledR T (ownR n r) = r ∧ okR T (ownR n r) = true := by
  have h5 := h.len
  have hm : ∀ y, y ∈ ownR n r ↔ y ∈ r := fun y => ownR_mem h.lt
  have hnd : (ownR n r).Nodup := List.nodup_range.filter _
  have hlen : (ownR n r).length = r.length := ((List.perm_ext_iff_of_nodup hnd h.nd).mpr hm).length_eq
  have hasc : (ownR n r).Pairwise (· < ·) := List.Pairwise.sublist List.filter_sublist List.pairwise_lt_range
  have hhead : headN (ownR n r) = gN r 0 := by
    have a1 : headN (ownR n r) ∈ ownR n r := by rw [headN_g]; exact gN_mem (by omega)
    have a2 : ∀ a ∈ ownR n r, headN (ownR n r) ≤ a := fun a ha => by
      cases hq : ownR n r with
      | nil => rw [hq] at ha; cases ha
      | cons b l =>
        rw [hq] at ha hasc
        rcases List.mem_cons.mp ha with e | e
        · rw [e]; exact Nat.le_refl _
        · exact Nat.le_of_lt ((List.pairwise_cons.mp hasc).1 a e)
    have a3 := a2 (gN r 0) ((hm _).mpr (gN_mem (by omega)))
    obtain ⟨i, hi, e⟩ := gN_ex ((hm _).mp a1)
    by_cases z : i = 0
    · subst z; exact e.symm
    · have := h.hd i (by omega) hi
      omega
  -- the two that a place is tied to
  have nbs : ∀ i, i < r.length → ∀ y, y ∈ nb (T.filter (inB (ownR n r))) (gN r i) ↔ ∃ j, j < r.length ∧ gN r j = y ∧ ((j = i + 1 ∨ i = j + 1) ∨ (i = 0 ∧ j + 1 = r.length) ∨ (j = 0 ∧ i + 1 = r.length)) := fun i hi y => by
    rw [nb_iff G, hm, hm]
    constructor
    · rintro ⟨_, hy, ha⟩
      obtain ⟨j, hj, rfl⟩ := gN_ex hy
      refine ⟨j, hj, rfl, ?_⟩
      by_cases hij : i < j
      · rcases (h.aj i j hij hj).mp ha with e | e
        · exact .inl (.inl e)
        · exact .inr (.inl e)
      · by_cases e : i = j
        · subst e; rw [adj_irr G] at ha; cases ha
        · rw [adj_sym] at ha
          rcases (h.aj j i (by omega) hi).mp ha with e | e
          · exact .inl (.inr e)
          · exact .inr (.inr e)
    · rintro ⟨j, hj, rfl, hc⟩
      refine ⟨gN_mem hi, gN_mem hj, ?_⟩
      rcases hc with (e | e) | e | e
      · exact (h.aj i j (by omega) hj).mpr (.inl e)
      · rw [adj_sym]; exact (h.aj j i (by omega) hi).mpr (.inl e)
      · exact (h.aj i j (by omega) hj).mpr (.inr e)
      · rw [adj_sym]; exact (h.aj j i (by omega) hi).mpr (.inr e)
  have deg : ∀ x ∈ ownR n r, ((T.filter (inB (ownR n r))).filter (atB x)).length = 2 := fun x hx => by
    rw [deg_len]
    obtain ⟨i, hi, rfl⟩ := gN_ex ((hm x).mp hx)
    by_cases z0 : i = 0
    · subst z0
      refine len_two (nb_nd G _) (a := gN r 1) (b := gN r (r.length - 1)) (fun e => by have := gN_inj h.nd (by omega) (by omega) e; omega) fun y => ?_
      rw [nbs 0 hi]
      constructor
      · rintro ⟨j, hj, rfl, hc⟩
        have : j = 1 ∨ j = r.length - 1 := by omega
        rcases this with e | e
        · left; rw [e]
        · right; rw [e]
      · rintro (e | e)
        · exact ⟨1, by omega, e.symm, by omega⟩
        · exact ⟨r.length - 1, by omega, e.symm, by omega⟩
    · by_cases z1 : i + 1 < r.length
      · refine len_two (nb_nd G _) (a := gN r (i - 1)) (b := gN r (i + 1)) (fun e => by have := gN_inj h.nd (by omega) (by omega) e; omega) fun y => ?_
        rw [nbs i hi]
        constructor
        · rintro ⟨j, hj, rfl, hc⟩
          have : j = i - 1 ∨ j = i + 1 := by omega
          rcases this with e | e
          · left; rw [e]
          · right; rw [e]
        · rintro (e | e)
          · exact ⟨i - 1, by omega, e.symm, by omega⟩
          · exact ⟨i + 1, by omega, e.symm, by omega⟩
      · refine len_two (nb_nd G _) (a := gN r (i - 1)) (b := gN r 0) (fun e => by have := gN_inj h.nd (by omega) (by omega) e; omega) fun y => ?_
        rw [nbs i hi]
        constructor
        · rintro ⟨j, hj, rfl, hc⟩
          have : j = i - 1 ∨ j = 0 := by omega
          rcases this with e | e
          · left; rw [e]
          · right; rw [e]
        · rintro (e | e)
          · exact ⟨i - 1, by omega, e.symm, by omega⟩
          · exact ⟨0, by omega, e.symm, by omega⟩
  -- the walk
  have mem : ∀ i, i < r.length → ∀ y, y ∈ nxt (T.filter (inB (ownR n r))) (r.take (i + 1)) ↔ y ∈ nb (T.filter (inB (ownR n r))) (gN r i) ∧ y ∉ r.take (i + 1) := fun i hi y => by
    unfold nxt
    rw [srtN_mem, List.mem_filter, take_last hi]
    constructor
    · rintro ⟨a, b⟩; exact ⟨a, of_decide_eq_true b⟩
    · rintro ⟨a, b⟩; exact ⟨a, decide_eq_true b⟩
  have walk : ∀ k i, i < r.length → r.length ≤ k + i + 1 → ledF (T.filter (inB (ownR n r))) k (r.take (i + 1)) = r := by
    intro k
    induction k with
    | zero =>
      intro i hi hk
      unfold ledF
      exact List.take_of_length_le (by omega)
    | succ k ih =>
      intro i hi hk
      by_cases z : i + 1 < r.length
      · have h1 : gN r (i + 1) ∈ nxt (T.filter (inB (ownR n r))) (r.take (i + 1)) := (mem i hi _).mpr ⟨(nbs i hi _).mpr ⟨i + 1, z, rfl, .inl (.inl rfl)⟩, fun hy => by
          obtain ⟨j, j1, j2, e⟩ := take_mem.mp hy
          have := gN_inj h.nd j2 z e
          omega⟩
        have h2 : ∀ y ∈ nxt (T.filter (inB (ownR n r))) (r.take (i + 1)), gN r (i + 1) ≤ y := fun y hy => by
          obtain ⟨a, b⟩ := (mem i hi y).mp hy
          obtain ⟨j, hj, rfl, hc⟩ := (nbs i hi y).mp a
          have hj' : ¬ j ≤ i := fun q => b (take_mem.mpr ⟨j, q, hj, rfl⟩)
          have : j = i + 1 ∨ (i = 0 ∧ j = r.length - 1) := by omega
          rcases this with e | ⟨e1, e2⟩
          · rw [e]; exact Nat.le_refl _
          · rw [e1, e2]; exact Nat.le_of_lt h.od
        cases hq : nxt (T.filter (inB (ownR n r))) (r.take (i + 1)) with
        | nil => rw [hq] at h1; cases h1
        | cons x l =>
          have hx : x ∈ nxt (T.filter (inB (ownR n r))) (r.take (i + 1)) := by rw [hq]; exact .head _
          have h3 := srtN_head _ h1 x (by unfold nxt at hq; rw [hq]; rfl)
          have h4 := h2 x hx
          have e : x = gN r (i + 1) := by omega
          unfold ledF
          rw [hq]
          show ledF _ k (r.take (i + 1) ++ [x]) = r
          rw [e, ← take_snoc z]
          exact ih (i + 1) z (by omega)
      · have e : r.take (i + 1) = r := List.take_of_length_le (by omega)
        have hn : nxt (T.filter (inB (ownR n r))) (r.take (i + 1)) = [] := by
          cases hq : nxt (T.filter (inB (ownR n r))) (r.take (i + 1)) with
          | nil => rfl
          | cons x l =>
            exfalso
            obtain ⟨a, b⟩ := (mem i hi x).mp (by rw [hq]; exact .head _)
            obtain ⟨j, hj, e2, _⟩ := (nbs i hi x).mp a
            exact b (by rw [e, ← e2]; exact gN_mem hj)
        unfold ledF
        rw [hn, e]
  have hled : ledR T (ownR n r) = r := by
    unfold ledR
    have e : [headN (ownR n r)] = r.take (0 + 1) := by
      rw [hhead]
      cases r with
      | nil => simp at h5
      | cons a r => rfl
    rw [e]
    have hn := nodup_len h.nd h.lt
    have := G.h7
    exact walk 998 0 (by omega) (by omega)
  refine ⟨hled, ?_⟩
  unfold okR
  rw [hled, decide_eq_true (show 4 < (ownR n r).length by omega), decide_eq_true hlen.symm]
  have : ((ownR n r).map fun x => ((T.filter (inB (ownR n r))).filter (atB x)).length) = List.replicate (ownR n r).length 2 := List.eq_replicate_iff.mpr ⟨by rw [List.length_map], fun b hb => by
    obtain ⟨x, hx, rfl⟩ := List.mem_map.mp hb
    exact deg x hx⟩
  rw [decide_eq_true this]; rfl
theorem sub_filter : ∀ {row l : List Nat}, row.Sublist l → l.Nodup → row = l.filter fun a => decide (a ∈ row)
  | _, _, .slnil, _ => rfl
  | row, a :: l, .cons _ h, nd => by
    obtain ⟨h1, h2⟩ := List.nodup_cons.mp nd
    rw [List.filter_cons, if_neg (by simpa using fun q => h1 (h.subset q))]
    exact sub_filter h h2
  | a :: row, _ :: l, .cons_cons _ h, nd => by
    obtain ⟨h1, h2⟩ := List.nodup_cons.mp nd
    rw [List.filter_cons, if_pos (by simp)]
    congr 1
    refine (sub_filter h h2).trans (List.filter_congr fun x hx => ?_)
    have : x ≠ a := fun e => h1 (by rw [← e]; exact hx)
    simp [this]
theorem lots_nd : ∀ {l : List Nat}, l.Nodup → (lotsF l).Nodup
  | [], _ => List.nodup_nil
  | p :: ps, h => by
    obtain ⟨h1, h2⟩ := List.nodup_cons.mp h
    show ([p] :: ((lotsF ps).map (fun r => p :: r) ++ lotsF ps)).Nodup
    have np : ∀ r ∈ lotsF ps, p ∉ r := fun r hr hp => h1 ((lots_mem.mp hr).1.subset hp)
    refine List.nodup_cons.mpr ⟨fun hm => ?_, List.nodup_append.mpr ⟨List.Pairwise.map _ (fun a b hne e => hne (List.cons.inj e).2) (lots_nd h2), lots_nd h2, fun a ha b hb e => ?_⟩⟩
    · rcases List.mem_append.mp hm with z | z
      · obtain ⟨r, hr, e⟩ := List.mem_map.mp z
        exact (lots_mem.mp hr).2 (List.cons.inj e).2
      · exact np _ z (by simp)
    · obtain ⟨r, hr, rfl⟩ := List.mem_map.mp ha
      exact np b hb (by rw [← e]; simp)
theorem lawL_mem (G : GoodW n T) (r : List Nat) : r ∈ lawL n T ↔ Hole n T r := by
  unfold lawL candR
  rw [srtQ_mem, List.mem_map]
  constructor
  · rintro ⟨row, h, rfl⟩
    obtain ⟨h1, h2⟩ := List.mem_filter.mp h
    exact (hole_of_led G (lots_mem.mp h1).1 h2).1
  · intro h
    obtain ⟨h1, h2⟩ := led_of_hole G h
    refine ⟨ownR n r, List.mem_filter.mpr ⟨lots_mem.mpr ⟨List.filter_sublist, fun e => ?_⟩, h2⟩, h1⟩
    have h5 := h.len
    have : gN r 0 ∈ ownR n r := (ownR_mem h.lt).mpr (gN_mem (by omega))
    rw [e] at this; cases this
theorem dQ_inj (a b : List Nat) (h : dQ a = dQ b) : a = b := by
  have e := D.tup.inj h
  injection e with e1 e2
  injection e2 with e3 _
  exact dR_inj a b e3
theorem ltK_of {a b : List Nat} (h : ltB (dQ a) (dQ b) = true) : ltK a b := by
  have h := of_decide_eq_true h
  have h : cmpTL [.int (a.length : Int), dR a] [.int (b.length : Int), dR b] = .lt := h
  unfold cmpTL at h
  unfold cmpT at h
  by_cases h1 : (a.length : Int) < b.length
  · exact .inl (by omega)
  · by_cases h2 : (b.length : Int) < a.length
    · rw [if_neg h1, if_pos h2] at h; cases h
    · rw [if_neg h1, if_neg h2] at h
      refine .inr ⟨by omega, decide_eq_true ?_⟩
      have h : cmpTL [dR a] [dR b] = .lt := h
      unfold cmpTL at h
      cases e : cmpT (dR a) (dR b) with
      | lt => rfl
      | gt => rw [e] at h; cases h
      | eq => rw [e] at h; cases h
theorem lawL_srt (G : GoodW n T) : (lawL n T).Pairwise ltK := by
  have nd : (candR T (lotsF (List.range n))).Nodup := by
    unfold candR
    refine List.pairwise_map.mpr (List.Pairwise.imp_of_mem (fun {a b} ha hb hne e => hne ?_) ((lots_nd List.nodup_range).filter (okR T)))
    obtain ⟨a1, a2⟩ := List.mem_filter.mp ha
    obtain ⟨b1, b2⟩ := List.mem_filter.mp hb
    have ca := (hole_of_led G (lots_mem.mp a1).1 a2).2
    have cb := (hole_of_led G (lots_mem.mp b1).1 b2).2
    rw [sub_filter (lots_mem.mp a1).1 List.nodup_range, sub_filter (lots_mem.mp b1).1 List.nodup_range]
    refine List.filter_congr fun x _ => ?_
    have : x ∈ a ↔ x ∈ b := by rw [← ca x, ← cb x, e]
    simp [this]
  exact (strict ord_dQ dQ_inj nd (sortD_dQ _)).imp fun h => ltK_of h
theorem ltK_as {a b : List Nat} (h1 : ltK a b) (h2 : ltK b a) : False := by
  rcases h1 with h1 | ⟨h1, q1⟩ <;> rcases h2 with h2 | ⟨h2, q2⟩
  · omega
  · omega
  · omega
  · rw [ltB_as q1] at q2; cases q2
theorem ltK_uniq : ∀ {l m : List (List Nat)}, l.Pairwise ltK → m.Pairwise ltK → (∀ x, x ∈ l ↔ x ∈ m) → l = m
  | [], [], _, _, _ => rfl
  | [], y :: m, _, _, h => by have := (h y).mpr (.head _); cases this
  | x :: l, [], _, _, h => by have := (h x).mp (.head _); cases this
  | x :: l, y :: m, h1, h2, h => by
    obtain ⟨a1, a2⟩ := List.pairwise_cons.mp h1
    obtain ⟨b1, b2⟩ := List.pairwise_cons.mp h2
    have e : x = y := by
      rcases List.mem_cons.mp ((h x).mp (.head _)) with z | z
      · exact z
      · rcases List.mem_cons.mp ((h y).mpr (.head _)) with q | q
        · exact q.symm
        · exact (ltK_as (b1 x z) (a1 y q)).elim
    subst e
    rw [ltK_uniq a2 b2 fun z => ?_]
    constructor
    · intro hz
      rcases List.mem_cons.mp ((h z).mp (.tail _ hz)) with q | q
      · have := a1 z hz; rw [q] at this; exact (ltK_as this this).elim
      · exact q
    · intro hz
      rcases List.mem_cons.mp ((h z).mpr (.tail _ hz)) with q | q
      · have := b1 z hz; rw [q] at this; exact (ltK_as this this).elim
      · exact q
end
theorem holes_agree (n : Nat) (T : List (Nat × Nat)) (G : GoodW n T) : holesL n T = lawL n T :=
  ltK_uniq (holesL_srt n T) (lawL_srt G) fun r => by rw [holesL_mem G.h0, lawL_mem G]
end Tw
end
section
set_option maxHeartbeats 0
open PySem PySem.Spec PyProof.Rows L2
namespace Tw.K09
def top (i : Nat) : Stmt := PySem.Challenge.pw_twoapart_k09_whole_ties_struck_and_put.main.body.getD i (.Pass ⟨0, 0, 0, 0⟩)
def f_is_within : Fd := ⟨"is_within", defArgs (top 16), defBody (top 16), defScope (top 16), ["value", "low", "high"], ["value", "low", "high"]⟩
def f_is_pair : Fd := ⟨"is_pair", defArgs (top 17), defBody (top 17), defScope (top 17), ["n", "value", "place"], ["n", "value"]⟩
def f_are_pairs : Fd := ⟨"are_pairs", defArgs (top 18), defBody (top 18), defScope (top 18), ["n", "value", "one", "other", "pair"], ["n", "value"]⟩
def f_is_web_value : Fd := ⟨"is_web_value", defArgs (top 19), defBody (top 19), defScope (top 19), ["value"], ["value"]⟩
def f_need_web : Fd := ⟨"need_web", defArgs (top 20), defBody (top 20), defScope (top 20), ["value"], ["value"]⟩
def f_all_pairs : Fd := ⟨"all_pairs", defArgs (top 21), defBody (top 21), defScope (top 21), ["n", "found", "one", "other"], ["n"]⟩
def f_are_tied : Fd := ⟨"are_tied", defArgs (top 22), defBody (top 22), defScope (top 22), ["web", "one", "other"], ["web", "one", "other"]⟩
def f_near : Fd := ⟨"near", defArgs (top 23), defBody (top 23), defScope (top 23), ["web", "place", "other"], ["web", "place"]⟩
def f_counter : Fd := ⟨"counter", defArgs (top 24), defBody (top 24), defScope (top 24), ["web", "pair"], ["web"]⟩
def f_longer : Fd := ⟨"longer", defArgs (top 25), defBody (top 25), defScope (top 25), ["web", "rows", "found", "row", "some", "place", "one"], ["web", "rows"]⟩
def f_holes_of : Fd := ⟨"holes_of", defArgs (top 26), defBody (top 26), defScope (top 26), ["web", "found", "rows", "size", "place", "row"], ["web"]⟩
def f_first_of : Fd := ⟨"first_of", defArgs (top 27), defBody (top 27), defScope (top 27), ["web", "word", "some"], ["web"]⟩
def f_calm : Fd := ⟨"calm", defArgs (top 28), defBody (top 28), defScope (top 28), ["web"], ["web"]⟩
def f_against : Fd := ⟨"against", defArgs (top 29), defBody (top 29), defScope (top 29), ["web"], ["web"]⟩
def f_chosen : Fd := ⟨"chosen", defArgs (top 32), defBody (top 32), defScope (top 32), ["pairs", "many", "found", "turn", "more", "row", "pair"], ["pairs", "many"]⟩
def f_with_ties : Fd := ⟨"with_ties", defArgs (top 33), defBody (top 33), defScope (top 33), ["web", "more"], ["web", "more"]⟩
def f_without_ties : Fd := ⟨"without_ties", defArgs (top 34), defBody (top 34), defScope (top 34), ["web", "some", "tie"], ["web", "some"]⟩
def f_first_calm : Fd := ⟨"first_calm", defArgs (top 35), defBody (top 35), defScope (top 35), ["web", "pairs", "change", "many", "row"], ["web", "pairs", "change"]⟩
def f_need_small : Fd := ⟨"need_small", defArgs (top 36), defBody (top 36), defScope (top 36), ["web"], ["web"]⟩
def f_least_struck : Fd := ⟨"least_struck", defArgs (top 37), defBody (top 37), defScope (top 37), ["web"], ["web"]⟩
def f_least_put : Fd := ⟨"least_put", defArgs (top 38), defBody (top 38), defScope (top 38), ["web"], ["web"]⟩
def f__law_deck : Fd := ⟨"_law_deck", defArgs (top 40), defBody (top 40), defScope (top 40), ["cell", "turn"], ["cell", "turn"]⟩
def f__law_pick : Fd := ⟨"_law_pick", defArgs (top 41), defBody (top 41), defScope (top 41), ["deck", "size", "number", "found"], ["deck", "size"]⟩
def f__law_sort : Fd := ⟨"_law_sort", defArgs (top 42), defBody (top 42), defScope (top 42), ["thing"], ["thing"]⟩
def f__law_same : Fd := ⟨"_law_same", defArgs (top 43), defBody (top 43), defScope (top 43), ["told", "due", "k", "part"], ["told", "due"]⟩
def f__law_known : Fd := ⟨"_law_known", defArgs (top 46), defBody (top 46), defScope (top 46), ["p", "s", "c", "h"], []⟩
def f__law_pairs : Fd := ⟨"_law_pairs", defArgs (top 47), defBody (top 47), defScope (top 47), ["n", "found", "one", "other"], ["n"]⟩
def f__law_against : Fd := ⟨"_law_against", defArgs (top 48), defBody (top 48), defScope (top 48), ["web_so", "pair"], ["web_so"]⟩
def f__law_web : Fd := ⟨"_law_web", defArgs (top 49), defBody (top 49), defScope (top 49), ["deck", "n", "way", "some", "ties_so", "web_so", "size", "row", "pair", "at"], ["deck", "n"]⟩
def f__law_lots : Fd := ⟨"_law_lots", defArgs (top 50), defBody (top 50), defScope (top 50), ["n", "found", "place", "row"], ["n"]⟩
def f__law_within : Fd := ⟨"_law_within", defArgs (top 51), defBody (top 51), defScope (top 51), ["web_so", "row", "tie"], ["web_so", "row"]⟩
def f__law_degrees : Fd := ⟨"_law_degrees", defArgs (top 52), defBody (top 52), defScope (top 52), ["ties_so", "row", "place", "tie"], ["ties_so", "row"]⟩
def f__law_led : Fd := ⟨"_law_led", defArgs (top 53), defBody (top 53), defScope (top 53), ["ties_so", "first", "found", "more", "some", "one", "other", "place"], ["ties_so", "first"]⟩
def f__law_holes : Fd := ⟨"_law_holes", defArgs (top 54), defBody (top 54), defScope (top 54), ["web_so", "found", "row", "ties_so", "led_so", "size"], ["web_so"]⟩
def f__law_calm : Fd := ⟨"_law_calm", defArgs (top 55), defBody (top 55), defScope (top 55), ["web_so"], ["web_so"]⟩
def f__law_lots_of : Fd := ⟨"_law_lots_of", defArgs (top 56), defBody (top 56), defScope (top 56), ["pairs_so", "many", "found", "turn", "longer_v", "row", "last", "pair"], ["pairs_so", "many"]⟩
def f__law_first : Fd := ⟨"_law_first", defArgs (top 57), defBody (top 57), defScope (top 57), ["web_so", "struck", "pairs_so", "many", "row", "ties_so", "tie"], ["web_so", "struck"]⟩
def f_law : Fd := ⟨"law", defArgs (top 58), defBody (top 58), defScope (top 58), ["script", "cell", "p", "s", "c", "k", "e", "h", "wheel", "deck", "n", "call_so", "web_so", "told", "one"], ["script"]⟩
def fds : List Fd := [f_is_within, f_is_pair, f_are_pairs, f_is_web_value, f_need_web, f_all_pairs, f_are_tied, f_near, f_counter, f_longer, f_holes_of, f_first_of, f_calm, f_against, f_chosen, f_with_ties, f_without_ties, f_first_calm, f_need_small, f_least_struck, f_least_put, f__law_deck, f__law_pick, f__law_sort, f__law_same, f__law_known, f__law_pairs, f__law_against, f__law_web, f__law_lots, f__law_within, f__law_degrees, f__law_led, f__law_holes, f__law_calm, f__law_lots_of, f__law_first, f_law]
def f_kin : Fd := ⟨"_law_kin", defArgs (top 44), defBody (top 44), defScope (top 44), ["e", "sorts", "labels", "label", "good"], ["e"]⟩
def f_try : Fd := ⟨"_law_try", defArgs (top 45), defBody (top 45), defScope (top 45), ["call_so", "found", "e"], ["call_so"]⟩
def kd : Df := d__law_kin
def tn : Tn := ⟨fds.map (·.x), [("MOST_PLACES", 7), ("MOST_MENDED", 6)], ["InvalidWeb", "InvalidPlace", "InvalidTie", "InvalidWeights", "InvalidCover", "InvalidPairs", "InvalidText", "NotCalm", "NotFold", "Unlike", "NothingToUndo", "TooMany"], (["ValueError", "all", "any", "bool", "enumerate", "int", "isinstance", "len", "list", "max", "min", "range", "set", "sorted", "str", "tuple", "zip"] : List Str), true, ["law"], true⟩
theorem okAll : ((fds.zip ds).all fun p => okD tn p.1 p.2) = true := by decide +kernel
theorem plainAll : (fds.all fun fd => plainA fd.args fd.ps) = true := by decide +kernel
theorem trOk : trB tn f_kin f_try kd = true := by decide +kernel
theorem kinOk : tn.tr = true → ∀ c w, kinW c = some w → exSs cs0 kd.body 0 (startR kd [.xc c]) [] = .ok (.rt (.str w)) [] := by
  intro h c w e
  match c, e with
  | 0, e => cases e; kernel_rfl
  | 1, e => cases e; kernel_rfl
  | 2, e => cases e; kernel_rfl
  | 3, e => cases e; kernel_rfl
  | 4, e => cases e; kernel_rfl
  | 5, e => cases e; kernel_rfl
  | 6, e => cases e; kernel_rfl
  | 7, e => cases e; kernel_rfl
  | 8, e => cases e; kernel_rfl
  | 9, e => cases e; kernel_rfl
  | 10, e => cases e; kernel_rfl
  | 11, e => cases e; kernel_rfl
abbrev R : PySem.W.OpenRow := PySem.W.OpenLaw.row PySem.Challenge.rw_twoapart_k09_whole_ties_struck_and_put
abbrev hk : PySem.W.Hook := hookY 4 (faOf tn) (fnOf tn fds f_kin f_try) (tfOf tn) (exB PySem.Challenge.pw_twoapart_k09_whole_ties_struck_and_put tn)
def ob (s : PySem.W.SharedT) : He.AlX := obsY 4 (faOf tn) (fnOf tn fds f_kin f_try) (tfOf tn) (exB PySem.Challenge.pw_twoapart_k09_whole_ties_struck_and_put tn) (HandSHeadRun.getT s)
theorem ob_eq (s : PySem.W.SharedT) : ob s = hk.obs s.abs := obsY_eq (HandSHeadRun.getT_eq s)
def loose : List Str := (["ApartError", "InvalidCover", "InvalidPairs", "InvalidPlace", "InvalidText", "InvalidTie", "InvalidWeb", "InvalidWeights", "MOST_MENDED", "MOST_PLACES", "NotCalm", "NotFold", "NothingToUndo", "TooMany", "Unlike", "_law_against", "_law_calm", "_law_deck", "_law_degrees", "_law_first"] : List Str) ++ (["_law_holes", "_law_kin", "_law_known", "_law_led", "_law_lots", "_law_lots_of", "_law_pairs", "_law_pick", "_law_same", "_law_sort", "_law_try", "_law_web", "_law_within", "against", "all_pairs", "are_pairs", "are_tied", "calm", "chosen", "counter"] : List Str) ++ (["first_calm", "first_of", "holes_of", "is_pair", "is_web_value", "is_within", "least_put", "least_struck", "longer", "near", "need_small", "need_web", "with_ties", "without_ties"] : List Str)
theorem run (w : World) : HandSHeadRun.RunEq R (PySem.W.view R.prog [58]) hk ob 4000 loose w := by
  intro os
  kernel_rfl

end Tw.K09
open PySem PySem.W PySem.Calls PyProof.Rows
theorem K09_end {N : Nat} (hN : L2.Room (N + 1) callerA) (plain : ∀ ns : List Int, ns.length ≤ 63 → ∃ s', Tw.calD Tw.K09.ds (N + 1) 37 [.lst (ns.map .int)] [] = .ok (.bl true) s') : PySem.Challenge.rw_twoapart_k09_whole_ties_struck_and_put.Holds := by
  w_on; o_law
  refine HandSHeadRun.head_any (r := OpenLaw.row PySem.Challenge.rw_twoapart_k09_whole_ties_struck_and_put) (q := view (OpenLaw.row PySem.Challenge.rw_twoapart_k09_whole_ties_struck_and_put).prog [58]) (H := Tw.K09.hk) (ob := Tw.K09.ob) (M := 4000) (loose := Tw.K09.loose) (d := HandSHeadRun.topDef (OpenLaw.row PySem.Challenge.rw_twoapart_k09_whole_ties_struck_and_put).prog 58) (kwd := []) Tw.K09.ob_eq
    (by kernel_rfl) (fun s => by kernel_rfl) Tw.K09.run (by kernel_rfl) (by kernel_rfl) (by kernel_rfl) (by rfl) (by first | assumption | decide +kernel) (by decide +kernel) ⟨rfl, rfl, rfl, rfl, rfl, by decide +kernel⟩ ?hw ?hc
  case hw => w_witness2
  case hc =>
    refine LamX.walk_ofTsE (l := PySem.Challenge.rw_twoapart_k09_whole_ties_struck_and_put) (n := 63) (k := N + 1) (x := "script") (CX := fun _ => L2.CX0) rfl (by decide) (by kernel_rfl) hN ?F (fun _ _ _ _ _ z => z)
    intro w mg fa h Y G hmg0
    obtain ⟨K, KX, c⟩ := Y
    have hmg : mg ("law" : PySem.Str) = some (.ref fa) := by
      have e : (HandSHeadRun.topDef (OpenLaw.row PySem.Challenge.rw_twoapart_k09_whole_ties_struck_and_put).prog 58).name = ("law" : PySem.Str) := by kernel_rfl
      rw [← e]
      exact hmg0
    exact ⟨K, KX, Tw.end_T (l := PySem.Challenge.rw_twoapart_k09_whole_ties_struck_and_put) (w := w) (fds := Tw.K09.fds) (f := 37) (fd := Tw.K09.f_law) (x := "script") rfl Tw.K09.okAll Tw.K09.plainAll rfl Tw.K09.trOk Tw.K09.kinOk rfl (.inr rfl) rfl KX G c rfl hmg rfl plain⟩
end
theorem PySem.Challenge.cw_twoapart_k09_whole_ties_struck_and_put_holds : PySem.Challenge.rw_twoapart_k09_whole_ties_struck_and_put.Holds := by
  exact K09_end (N := 12) ⟨rfl, by decide, by decide⟩ fun ns hl => Tw.K09.m_law Tw.holes_agree ns hl
