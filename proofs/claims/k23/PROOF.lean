import PyProof.Rows.All
import Wide.All
import OpenK.AllK
import Wide.FinOn
import HandS.ForMost
import HandS.ForExc
import HandS.Zip
import HandS.Walk
import HandS.Deep
import HandS.Flow
import HandS.IsInst
import HandS.TupAny
import HandS.TupLe
import HandS.TryOnly
import HandS.Style
import HandS.Wide
import HandS.SortInts
import HandS.More
import HandS.Small
import HandS.TupMul
import KE.DataMinMax
import PyProof.Rows.SumAny
import PyProof.ReprReads
import PyProof.ReprRoads
import KE.KExcSuper
import HandS.ExcInit
import HandS.RaiseMore
import HandS.ExcSuper
import KE.KExcIs
import HandS.ExcField
import HandS.ExcIs
import HandS.HotCalls
import PyProof.Rows.CountFlat
import PyProof.StrLawsRepr
import PySem.Challenge.RW_setinlines_k23_papers_and_arguments_of_s
set_option Elab.async false
set_option linter.all false
set_option maxRecDepth 100000
set_option maxHeartbeats 1000000
/-! zip of two sequences, each a list or a tuple -/
namespace ZX
open PySem PySem.Spec PyProof.Rows L2
open PySem.Sem (wp)
inductive Kd where
  | l | t
/-- an iterator at c over b, at its i-th item -/
def Itr (k : Kd) (h : Heap) (c b : Addr) (i : Nat) : Prop := match k with
  | .l => h.IsListIter c b i
  | .t => h.IsTupleIter c b i
def Seq' (k : Kd) (h : Heap) (b : Addr) (xs : Array Value) : Prop := match k with
  | .l => h.IsList b xs
  | .t => h.IsTuple b xs
variable {k kx ky : Kd}
theorem Itr.far {h h' : Heap} {c b d : Addr} {i : Nat} (x : Itr k h c b i) (e : Heap.ExtBut d h h') (n : c ≠ d) : Itr k h' c b i := by
  cases k
  · exact Heap.IsListIter.extBut x e n
  · exact Heap.IsTupleIter.extBut x e n
theorem Seq'.far {h h' : Heap} {b d : Addr} {xs : Array Value} (x : Seq' k h b xs) (e : Heap.ExtBut d h h') (n : b ≠ d) : Seq' k h' b xs := by
  cases k
  · exact Heap.IsList.extBut x e n
  · exact Heap.IsTuple.extBut x e n
theorem Itr.moved {h h' : Heap} {c b : Addr} {i : Nat} (x : Itr k h c b i) (e : ∀ o, h.get? c = some o → h'.get? c = some o) : Itr k h' c b i := by
  cases k
  · exact Heap.IsListIter.at x e
  · exact Heap.IsTupleIter.at x e
theorem Itr.obj {h : Heap} {c b : Addr} {i : Nat} (x : Itr k h c b i) : ∃ o, h.get? c = some o ∧ ∃ fs, o.data = .fields fs := by
  cases k
  · obtain ⟨o, e, _, d⟩ := x; exact ⟨o, e, _, d⟩
  · obtain ⟨o, e, _, d⟩ := x; exact ⟨o, e, _, d⟩
section
variable {prog : Program} {w : World} {A : Around} {E : Value → Shared → Prop} {s : Shared} {Q : Value → Shared → Prop}
theorem nx_item {c b : Addr} {i : Nat} {xs : Array Value} {x : Value} (hit : Itr k s.heap c b i) (hl : Seq' k s.heap b xs) (hx : xs[i]? = some x)
    (hQ : ∀ h', Itr k h' c b (i + 1) → Heap.SameBut c s.heap h' → Q x { s with heap := h' }) : wpAny (model prog w) A (Builtin.SmallTypes.nextOf (.ref c)) Q E s := by
  cases k
  · exact wpAny_nextOf_list_item hit hl hx hQ
  · exact RZ.nextOf_tuple_item hit hl hx hQ
theorem nx_end {c b : Addr} {i : Nat} {xs : Array Value} (hh : A.handled = none) (hit : Itr k s.heap c b i) (hl : Seq' k s.heap b xs) (hx : xs[i]? = none)
    (hE : ∀ h' e, Heap.ExtBut c s.heap h' → (∃ o, h'.get? e = some o ∧ o.cls = .type "StopIteration") → E (.ref e) { s with heap := h' }) : wpAny (model prog w) A (Builtin.SmallTypes.nextOf (.ref c)) Q E s := by
  cases k
  · exact wpAny_nextOf_list_end hh hit hl hx hE
  · exact RZ.nextOf_tuple_end hh hit hl hx hE
/-- what a turn leaves: the pair made anew stands at the heap's end -/
structure Left (h0 h' : Heap) (z TI TO c1 c2 b1 b2 : Addr) (kx ky : Kd) (i j : Nat) (x y : Value) : Prop where
  hz : IsZip h' z TI TO (rawInt h0.objs.size)
  hTO : IsPair h' TO x y
  h1 : Itr kx h' c1 b1 (i + 1)
  h2 : Itr ky h' c2 b2 (j + 1)
  new : IsPair h' h0.objs.size x y
  kept : ∀ c o, c ≠ z → c ≠ TO → c ≠ c1 → c ≠ c2 → h0.get? c = some o → h'.get? c = some o
theorem step_item {z TI TO c1 c2 b1 b2 : Addr} {i j : Nat} {xs ys : Array Value} {x y p q : Value} (D : ZipApart z TI TO c1 c2 b1 b2)
    (hz : IsZip s.heap z TI TO .none) (hTI : IsPair s.heap TI (.ref c1) (.ref c2)) (hTO : IsPair s.heap TO p q)
    (h1 : Itr kx s.heap c1 b1 i) (h2 : Itr ky s.heap c2 b2 j) (s1 : Seq' kx s.heap b1 xs) (s2 : Seq' ky s.heap b2 ys) (hx : xs[i]? = some x) (hy : ys[j]? = some y)
    (hQ : ∀ h', Left s.heap h' z TI TO c1 c2 b1 b2 kx ky i j x y → Q (.ref s.heap.objs.size) { s with heap := h' }) :
    wpAny (model prog w) A (Builtin.«zip.__next__» ⟨[.ref z], []⟩) (fun fin s' => ∃ v, fin = .done (.ret v) ∧ Q v s') E s := by
  show wpAny _ _ (field (.ref z) 2 >>= _) _ _ _
  apply wpAny_bind; apply wpAny_field hz rfl (x := .bool false) rfl
  show wpAny _ _ (field (.ref z) 3 >>= _) _ _ _
  apply wpAny_bind; apply wpAny_field hz rfl (x := .ref TI) rfl
  apply wpAny_bind; apply wpAny_seqItems hTI rfl
  show wpAny _ _ (Builtin.SmallTypes.ownedTupleIsFree (.ref z) >>= _) _ _ _
  apply wpAny_bind
  unfold Builtin.SmallTypes.ownedTupleIsFree
  apply wpAny_bind; apply wpAny_field hz rfl (x := .none) rfl; apply wpAny_pure
  simp only [if_true]
  apply wpAny_bind; apply wpAny_rule
  apply wpAny_bind; apply wpAny_field hz rfl (x := .ref TO) rfl
  apply wpAny_bind; refine wpAny_setField_rec hz (by simp) fun ha za ea => ?_
  have za' : IsZip ha z TI TO .ellipsis := za
  apply wpAny_bind
  simp only [List.zipIdx_cons, List.zipIdx_nil, List.forIn_cons, List.forIn_nil]
  apply wpAny_bind; apply wpAny_bind; apply wpAny_onRaise
  show wpAny _ _ (Builtin.SmallTypes.nextOf (.ref c1) >>= _) _ _ _
  apply wpAny_bind
  refine nx_item (h1.far ea.extBut D.i1z) (s1.far ea.extBut D.l1z) hx fun hb ib eb => wpAny_pure ?_
  have tb : IsPair hb TO p q := eb.extBut _ _ D.TOi1 (ea.extBut _ _ D.TOz hTO)
  apply wpAny_bind; apply wpAny_seqItems tb rfl
  apply wpAny_bind; refine wpAny_updateSeq_pair tb fun hc tc ec => ?_
  have tc' : IsPair hc TO x q := tc
  apply wpAny_bind; apply wpAny_letGo; apply wpAny_pure
  apply wpAny_bind; apply wpAny_bind; apply wpAny_onRaise
  show wpAny _ _ (Builtin.SmallTypes.nextOf (.ref c2) >>= _) _ _ _
  apply wpAny_bind
  refine nx_item (((h2.far ea.extBut D.i2z).far eb.extBut D.i12.symm).far ec.extBut D.TOi2.symm) (((s2.far ea.extBut D.l2z).far eb.extBut D.l2i1).far ec.extBut D.l2TO) hy fun hd id ed => wpAny_pure ?_
  have td : IsPair hd TO x q := ed.extBut _ _ D.TOi2 tc'
  apply wpAny_bind; apply wpAny_seqItems td rfl
  apply wpAny_bind; refine wpAny_updateSeq_pair td fun hf tf ef => ?_
  have tf' : IsPair hf TO x y := tf
  apply wpAny_bind; apply wpAny_letGo; apply wpAny_pure; apply wpAny_pure
  apply wpAny_bind; apply wpAny_seqItems tf' rfl
  apply wpAny_bind; refine wpAny_newTuple ?_
  have sz : hf.objs.size = s.heap.objs.size := by rw [ef.1, ed.1, ec.1, eb.1, ea.1]
  have zf : IsZip hf z TI TO .ellipsis := ef.extBut _ _ D.TOz.symm (ed.extBut _ _ D.i2z.symm (ec.extBut _ _ D.TOz.symm (eb.extBut _ _ D.i1z.symm za')))
  have kf : ∀ c o, c ≠ z → c ≠ TO → c ≠ c1 → c ≠ c2 → s.heap.get? c = some o → hf.get? c = some o := fun c o n1 n2 n3 n4 e =>
    ef.extBut _ _ n2 (ed.extBut _ _ n4 (ec.extBut _ _ n2 (eb.extBut _ _ n3 (ea.extBut _ _ n1 e))))
  have f1 : Itr kx hf c1 b1 (i + 1) := ((ib.far ec.extBut D.TOi1.symm).far ed.extBut D.i12).far ef.extBut D.TOi1.symm
  have f2 : Itr ky hf c2 b2 (j + 1) := id.far ef.extBut D.TOi2.symm
  have zlt : z < hf.objs.size := Heap.lt_size zf
  show wpAny _ _ (Builtin.SmallTypes.ownedTupleHandOut (.ref z) (.ref hf.objs.size) >>= _) _ _ _
  apply wpAny_bind
  unfold Builtin.SmallTypes.ownedTupleHandOut
  have zg : IsZip (hf.push { cls := .type "tuple", data := .seq #[x, y] }) z TI TO .ellipsis := Heap.get?_push_of_some _ zf
  apply wpAny_bind; refine wpAny_setField_rec zg (by simp) fun hg zg2 eg => ?_
  have zg3 : IsZip hg z TI TO (rawInt hf.objs.size) := zg2
  refine wpAny_setField_rec zg3 (by simp) fun hi zi ei => ?_
  have zi' : IsZip hi z TI TO (rawInt hf.objs.size) := zi
  have up : ∀ c o, c ≠ z → hf.get? c = some o → hi.get? c = some o := fun c o n e => ei.extBut _ _ n (eg.extBut _ _ n (Heap.get?_push_of_some _ e))
  have nw : IsPair hi hf.objs.size x y := ei.extBut _ _ (Nat.ne_of_gt zlt) (eg.extBut _ _ (Nat.ne_of_gt zlt) (Heap.get?_push_size _ rfl))
  rw [sz] at zi' nw
  refine wpAny_pure ⟨_, rfl, ?_⟩
  show Q (.ref hf.objs.size) _
  rw [sz]
  exact hQ hi ⟨zi', up _ _ D.TOz tf', f1.moved fun o e => up _ o D.i1z e, f2.moved fun o e => up _ o D.i2z e, nw, fun c o n1 n2 n3 n4 e => up c o n1 (kf c o n1 n2 n3 n4 e)⟩
theorem step_end {R : Fin → Shared → Prop} {z TI TO c1 c2 b1 b2 : Addr} {i j : Nat} {xs ys : Array Value} {p q : Value} (hh : A.handled = none) (D : ZipApart z TI TO c1 c2 b1 b2)
    (hz : IsZip s.heap z TI TO .none) (hTI : IsPair s.heap TI (.ref c1) (.ref c2)) (hTO : IsPair s.heap TO p q)
    (h1 : Itr kx s.heap c1 b1 i) (h2 : Itr ky s.heap c2 b2 j) (s1 : Seq' kx s.heap b1 xs) (s2 : Seq' ky s.heap b2 ys) (he : xs[i]? = none ∨ ys[j]? = none)
    (hE : ∀ h' e, (∀ c o, c ≠ z → c ≠ TO → c ≠ c1 → c ≠ c2 → s.heap.get? c = some o → h'.get? c = some o) → (∃ o, h'.get? e = some o ∧ o.cls = .type "StopIteration") → E (.ref e) { s with heap := h' }) :
    wpAny (model prog w) A (Builtin.«zip.__next__» ⟨[.ref z], []⟩) R E s := by
  show wpAny _ _ (field (.ref z) 2 >>= _) _ _ _
  apply wpAny_bind; apply wpAny_field hz rfl (x := .bool false) rfl
  show wpAny _ _ (field (.ref z) 3 >>= _) _ _ _
  apply wpAny_bind; apply wpAny_field hz rfl (x := .ref TI) rfl
  apply wpAny_bind; apply wpAny_seqItems hTI rfl
  show wpAny _ _ (Builtin.SmallTypes.ownedTupleIsFree (.ref z) >>= _) _ _ _
  apply wpAny_bind
  unfold Builtin.SmallTypes.ownedTupleIsFree
  apply wpAny_bind; apply wpAny_field hz rfl (x := .none) rfl; apply wpAny_pure
  simp only [if_true]
  apply wpAny_bind; apply wpAny_rule
  apply wpAny_bind; apply wpAny_field hz rfl (x := .ref TO) rfl
  apply wpAny_bind; refine wpAny_setField_rec hz (by simp) fun ha za ea => ?_
  have za' : IsZip ha z TI TO .ellipsis := za
  apply wpAny_bind
  simp only [List.zipIdx_cons, List.zipIdx_nil, List.forIn_cons, List.forIn_nil]
  apply wpAny_bind; apply wpAny_bind; apply wpAny_onRaise
  show wpAny _ _ (Builtin.SmallTypes.nextOf (.ref c1) >>= _) _ _ _
  cases hx : xs[i]? with
  | none =>
    apply wpAny_bind
    refine nx_end hh (h1.far ea.extBut D.i1z) (s1.far ea.extBut D.l1z) hx fun hb e eb he => ?_
    obtain ⟨oe, g1, g2⟩ := he
    have zb : IsZip hb z TI TO .ellipsis := eb _ _ D.i1z.symm za'
    have nz : e ≠ z := fun r => by subst r; rw [zb] at g1; cases g1; simp at g2
    refine wpAny_setField_rec zb (by simp) fun hc _ ec => hE hc e (fun c o n1 _ n3 _ r => ec.extBut _ _ n1 (eb _ _ n3 (ea.extBut _ _ n1 r))) ⟨oe, ec.extBut _ _ nz g1, g2⟩
  | some x =>
    have hy : ys[j]? = none := he.resolve_left (by rw [hx]; simp)
    apply wpAny_bind
    refine nx_item (h1.far ea.extBut D.i1z) (s1.far ea.extBut D.l1z) hx fun hb ib eb => wpAny_pure ?_
    have tb : IsPair hb TO p q := eb.extBut _ _ D.TOi1 (ea.extBut _ _ D.TOz hTO)
    apply wpAny_bind; apply wpAny_seqItems tb rfl
    apply wpAny_bind; refine wpAny_updateSeq_pair tb fun hc tc ec => ?_
    apply wpAny_bind; apply wpAny_letGo; apply wpAny_pure
    apply wpAny_bind; apply wpAny_bind; apply wpAny_onRaise
    show wpAny _ _ (Builtin.SmallTypes.nextOf (.ref c2) >>= _) _ _ _
    apply wpAny_bind
    refine nx_end hh (((h2.far ea.extBut D.i2z).far eb.extBut D.i12.symm).far ec.extBut D.TOi2.symm) (((s2.far ea.extBut D.l2z).far eb.extBut D.l2i1).far ec.extBut D.l2TO) hy fun hd e ed he => ?_
    obtain ⟨oe, g1, g2⟩ := he
    have zd : IsZip hd z TI TO .ellipsis := ed _ _ D.i2z.symm (ec.extBut _ _ D.TOz.symm (eb.extBut _ _ D.i1z.symm za'))
    have nz : e ≠ z := fun r => by subst r; rw [zd] at g1; cases g1; simp at g2
    refine wpAny_setField_rec zd (by simp) fun hf _ ef => hE hf e (fun c o n1 n2 n3 n4 r => ef.extBut _ _ n1 (ed _ _ n4 (ec.extBut _ _ n2 (eb.extBut _ _ n3 (ea.extBut _ _ n1 r))))) ⟨oe, ef.extBut _ _ nz g1, g2⟩
theorem py_item {R : Option Value → Shared → Prop} {z TI TO c1 c2 b1 b2 : Addr} {i j : Nat} {xs ys : Array Value} {x y p q : Value} (D : ZipApart z TI TO c1 c2 b1 b2)
    (hz : IsZip s.heap z TI TO .none) (hTI : IsPair s.heap TI (.ref c1) (.ref c2)) (hTO : IsPair s.heap TO p q)
    (h1 : Itr kx s.heap c1 b1 i) (h2 : Itr ky s.heap c2 b2 j) (s1 : Seq' kx s.heap b1 xs) (s2 : Seq' ky s.heap b2 ys) (hx : xs[i]? = some x) (hy : ys[j]? = some y)
    (hQ : ∀ h', Left s.heap h' z TI TO c1 c2 b1 b2 kx ky i j x y → R (some (.ref s.heap.objs.size)) { s with heap := h' }) : wpAny (model prog w) A (pyNext (.ref z)) R E s := by
  have ty : s.TypeIs (.ref z) "zip" := ⟨_, hz, rfl⟩
  unfold pyNext
  apply wpAny_bind; apply wpAny_attempt
  exact wpAny_callSpecial?_slot (name := Str.ofString "__next__") ty F.slot_zip_next (wpAny_call_entry F.slot_zip_next ty F.entry_zip_next (step_item D hz hTI hTO h1 h2 s1 s2 hx hy fun h' l => wpAny_pure (hQ h' l)) (F.args_zip_next_1 _))
theorem py_end {R : Option Value → Shared → Prop} {z TI TO c1 c2 b1 b2 : Addr} {i j : Nat} {xs ys : Array Value} {p q : Value} (hh : A.handled = none) (D : ZipApart z TI TO c1 c2 b1 b2)
    (hz : IsZip s.heap z TI TO .none) (hTI : IsPair s.heap TI (.ref c1) (.ref c2)) (hTO : IsPair s.heap TO p q)
    (h1 : Itr kx s.heap c1 b1 i) (h2 : Itr ky s.heap c2 b2 j) (s1 : Seq' kx s.heap b1 xs) (s2 : Seq' ky s.heap b2 ys) (he : xs[i]? = none ∨ ys[j]? = none)
    (hQ : ∀ h', (∀ c o, c ≠ z → c ≠ TO → c ≠ c1 → c ≠ c2 → s.heap.get? c = some o → h'.get? c = some o) → R none { s with heap := h' }) : wpAny (model prog w) A (pyNext (.ref z)) R E s := by
  have ty : s.TypeIs (.ref z) "zip" := ⟨_, hz, rfl⟩
  unfold pyNext
  apply wpAny_bind; apply wpAny_attempt
  refine wpAny_callSpecial?_slot (name := Str.ofString "__next__") ty F.slot_zip_next (wpAny_call_entry F.slot_zip_next ty F.entry_zip_next (step_end hh D hz hTI hTO h1 h2 s1 s2 he fun h' e kp ⟨o, g1, g2⟩ => ?_) (F.args_zip_next_1 _))
  apply wpAny_bind
  exact wpAny_isInstance (T := "StopIteration") (b := true) ⟨o, g1, g2⟩ isSubtype_stop (wpAny_pure (hQ _ kp))
end
/-! zip(list, tuple), zip(tuple, list) made -/
def itObj (k : Kd) (b : Addr) : Obj := match k with
  | .l => { cls := .type "list_iterator", data := .fields #[.ref b, .int 0 0] }
  | .t => { cls := .type "tuple_iterator", data := .fields #[.ref b, .int 0 0] }
def hp1 (k : Kd) (h : Heap) (b : Addr) : Heap := h.push (itObj k b)
def hp2 (kx ky : Kd) (h : Heap) (b c : Addr) : Heap := (hp1 kx h b).push (itObj ky c)
def hp3 (kx ky : Kd) (h : Heap) (b c : Addr) : Heap := (hp2 kx ky h b c).push { cls := .type "tuple", data := .seq #[.ref h.objs.size, .ref (hp1 kx h b).objs.size] }
def hp4 (kx ky : Kd) (h : Heap) (b c : Addr) : Heap := (hp3 kx ky h b c).push { cls := .type "tuple", data := .seq #[.none, .none] }
def hp5 (kx ky : Kd) (h : Heap) (b c : Addr) : Heap := (hp4 kx ky h b c).push { cls := .type "zip", data := .fields #[.none, .bool false, .bool false, .ref (hp2 kx ky h b c).objs.size, .ref (hp3 kx ky h b c).objs.size] }
theorem made_lt (b c : Addr) (xs ys : Array Value) : Meets (Builtin.«zip.__new__» ⟨[.type "zip", .ref b, .ref c], []⟩) (fun _ R s => s.heap.IsList b xs ∧ s.heap.IsTuple c ys ∧ R (.ok (.ret (.ref (hp4 .l .t s.heap b c).objs.size))) { s with heap := hp5 .l .t s.heap b c }) :=
  .of_wp fun prog w A R s h => by
    obtain ⟨hp, g, d, tk, os⟩ := s; obtain ⟨m1, m2, h⟩ := h
    have hsub := sub_zip
    have n1 : Heap.IsList (Shared.heap ⟨hp, g, d, tk, os⟩) b xs := m1
    have n2 : Heap.IsTuple (Shared.heap ⟨hp.push { cls := .type "list_iterator", data := .fields #[.ref b, .int 0 0] }, g, d, tk, os⟩) c ys := Heap.IsTuple.push m2 _
    wp_walk using wpAny_pyIter_list n1, wpAny_pyIter_tuple n2
    exact ⟨_, rfl, h⟩
theorem made_tl (b c : Addr) (xs ys : Array Value) : Meets (Builtin.«zip.__new__» ⟨[.type "zip", .ref b, .ref c], []⟩) (fun _ R s => s.heap.IsTuple b xs ∧ s.heap.IsList c ys ∧ R (.ok (.ret (.ref (hp4 .t .l s.heap b c).objs.size))) { s with heap := hp5 .t .l s.heap b c }) :=
  .of_wp fun prog w A R s h => by
    obtain ⟨hp, g, d, tk, os⟩ := s; obtain ⟨m1, m2, h⟩ := h
    have hsub := sub_zip
    have n1 : Heap.IsTuple (Shared.heap ⟨hp, g, d, tk, os⟩) b xs := m1
    have n2 : Heap.IsList (Shared.heap ⟨hp.push { cls := .type "tuple_iterator", data := .fields #[.ref b, .int 0 0] }, g, d, tk, os⟩) c ys := Heap.IsList.push m2 _
    wp_walk using wpAny_pyIter_tuple n1, wpAny_pyIter_list n2
    exact ⟨_, rfl, h⟩
/-- which kinds -/
def Mix (kx ky : Kd) : Prop := (kx = .l ∧ ky = .t) ∨ (kx = .t ∧ ky = .l)
section
variable {prog : Program} {w : World} {A : Around} {E : Value → Shared → Prop} {s : Shared} {Q : Value → Shared → Prop}
theorem made {b c : Addr} {xs ys : Array Value} (hm : Mix kx ky) (m1 : Seq' kx s.heap b xs) (m2 : Seq' ky s.heap c ys)
    (h : ∀ h', IsZip h' (s.heap.objs.size + 4) (s.heap.objs.size + 2) (s.heap.objs.size + 3) .none → IsPair h' (s.heap.objs.size + 2) (.ref s.heap.objs.size) (.ref (s.heap.objs.size + 1)) →
      IsPair h' (s.heap.objs.size + 3) .none .none → Itr kx h' s.heap.objs.size b 0 → Itr ky h' (s.heap.objs.size + 1) c 0 → (∀ c o, s.heap.get? c = some o → h'.get? c = some o) → Q (.ref (s.heap.objs.size + 4)) { s with heap := h' }) :
    wpAny (model prog w) A (call (.type "zip") [.ref b, .ref c]) Q E s := by
  have y1 : (hp1 kx s.heap b).objs.size = s.heap.objs.size + 1 := Heap.size_push ..
  have y2 : (hp2 kx ky s.heap b c).objs.size = s.heap.objs.size + 2 := (Heap.size_push ..).trans (by rw [y1])
  have y3 : (hp3 kx ky s.heap b c).objs.size = s.heap.objs.size + 3 := (Heap.size_push ..).trans (by rw [y2])
  have y4 : (hp4 kx ky s.heap b c).objs.size = s.heap.objs.size + 4 := (Heap.size_push ..).trans (by rw [y3])
  have fr : ∀ k b, (itObj k b).isFreed = false := fun k b => by cases k <;> rfl
  have u5 : (hp5 kx ky s.heap b c).get? (hp4 kx ky s.heap b c).objs.size = some _ := Heap.get?_push_size _ rfl
  have u4 : (hp5 kx ky s.heap b c).get? (hp3 kx ky s.heap b c).objs.size = some _ := Heap.get?_push_of_some _ (Heap.get?_push_size _ rfl)
  have u3 : (hp5 kx ky s.heap b c).get? (hp2 kx ky s.heap b c).objs.size = some _ := Heap.get?_push_of_some _ (Heap.get?_push_of_some _ (Heap.get?_push_size _ rfl))
  have u2 : (hp5 kx ky s.heap b c).get? (hp1 kx s.heap b).objs.size = some (itObj ky c) := Heap.get?_push_of_some _ (Heap.get?_push_of_some _ (Heap.get?_push_of_some _ (Heap.get?_push_size _ (fr _ _))))
  have u1 : (hp5 kx ky s.heap b c).get? s.heap.objs.size = some (itObj kx b) := Heap.get?_push_of_some _ (Heap.get?_push_of_some _ (Heap.get?_push_of_some _ (Heap.get?_push_of_some _ (Heap.get?_push_size _ (fr _ _)))))
  have kp : ∀ c' o, s.heap.get? c' = some o → (hp5 kx ky s.heap b c).get? c' = some o := fun c' o x =>
    Heap.get?_push_of_some _ (Heap.get?_push_of_some _ (Heap.get?_push_of_some _ (Heap.get?_push_of_some _ (Heap.get?_push_of_some _ x))))
  have fin : Q (.ref (hp4 kx ky s.heap b c).objs.size) { s with heap := hp5 kx ky s.heap b c } := by
    rw [y2, y3, y4] at u5
    rw [y1, y2] at u3
    rw [y3] at u4
    rw [y1] at u2
    rw [y4]
    refine h _ u5 u3 u4 ?_ ?_ kp
    · cases kx
      · exact ⟨_, u1, rfl, rfl⟩
      · exact ⟨_, u1, rfl, rfl⟩
    · cases ky
      · exact ⟨_, u2, rfl, rfl⟩
      · exact ⟨_, u2, rfl, rfl⟩
  rcases hm with ⟨rfl, rfl⟩ | ⟨rfl, rfl⟩
  · exact callType_new F.called_zip (by decide) (F.typeCall_zip_2 _ _) (F.newCall_zip_2 _ _) (fun obj => F.args_object_init_3 obj _ _) F.entry_zip_new (made_lt b c xs ys) ⟨m1, m2, ⟨_, u5, rfl⟩, fin⟩
  · exact callType_new F.called_zip (by decide) (F.typeCall_zip_2 _ _) (F.newCall_zip_2 _ _) (fun obj => F.args_object_init_3 obj _ _) F.entry_zip_new (made_tl b c xs ys) ⟨m1, m2, ⟨_, u5, rfl⟩, fin⟩
end
/-! what the layer walks -/
def SqK (k : Kd) (K : PySem.W.Frag) (H : Hp) (a : Addr) (xs : List V) : Prop := match k with
  | .l => SqL K H a xs
  | .t => SqT K H a xs
theorem sq_at {X : Cx} {pins : List (Addr × Obj)} {σ : L2.St} {H : Hp} {s : Shared} {a : Addr} {xs : List V} (I : Inv X pins σ H s) (h : SqK k X.K H a xs) : ∃ its : List Value, Vals xs its ∧ Seq' k s.heap a its.toArray ∧ a < s.heap.objs.size := by
  cases k
  · obtain ⟨its, rv, p, _⟩ := I.list h
    exact ⟨its, rv, p.isList, p.lt⟩
  · obtain ⟨its, rv, p, _⟩ := I.tuple h
    obtain ⟨o, ho, _⟩ := id p
    exact ⟨its, rv, p, Heap.lt_size ho⟩
theorem sq_inj {X : Cx} {pins : List (Addr × Obj)} {σ : L2.St} {H : Hp} {s : Shared} {a : Addr} {xs ys : List V} (I : Inv X pins σ H s) (h : SqK k X.K H a xs) (h' : SqK k X.K H a ys) : xs = ys := by
  cases k
  · exact I.list_inj h h'
  · exact I.tuple_inj h h'
def Itx (kx ky : Kd) (K : PySem.W.Frag) (a b : Addr) : L2.It where
  go i H := ∃ (xs ys : List V) (x y : V), SqK kx K H a xs ∧ SqK ky K H b ys ∧ xs[i]? = some x ∧ ys[i]? = some y
  yld i H v H' := ∃ T x y, v = .ref T ∧ H T = none ∧ H' = upd H T (.tup [x, y]) ∧ (∀ xs, SqK kx K H a xs → xs[i]? = some x) ∧ ∀ ys, SqK ky K H b ys → ys[i]? = some y
  stop i H := ∃ xs ys : List V, SqK kx K H a xs ∧ SqK ky K H b ys ∧ (xs.length ≤ i ∨ ys.length ≤ i)
theorem turn_x {P : Program} {w : World} {K : PySem.W.Frag} {elts : List Expr} {kk : Nat} {tpos : Pos} {a b z TI TO c1 c2 : Addr} (D : ZipApart z TI TO c1 c2 a b) :
    Turn P w K (.Tuple elts kk tpos) (Itx kx ky K a b) [z, TI, TO, c1, c2] z (fun i h => IsZip h z TI TO .none ∧ IsPair h TI (.ref c1) (.ref c2) ∧ (∃ x y, IsPair h TO x y) ∧ Itr kx h c1 a i ∧ Itr ky h c2 b i) where
  mem := by simp
  obj := fun i h st c hc => by
    obtain ⟨hz, hTI, ⟨x, y, hTO⟩, h1, h2⟩ := st
    obtain ⟨o1, e1, _, d1⟩ := h1.obj
    obtain ⟨o2, e2, _, d2⟩ := h2.obj
    simp only [List.mem_cons, List.not_mem_nil, or_false] at hc
    rcases hc with rfl | rfl | rfl | rfl | rfl
    · exact ⟨_, hz, fun v q => nomatch q⟩
    · exact ⟨_, hTI, fun v q => nomatch q⟩
    · exact ⟨_, hTO, fun v q => nomatch q⟩
    · exact ⟨o1, e1, fun v q => by rw [d1] at q; cases q⟩
    · exact ⟨o2, e2, fun v q => by rw [d2] at q; cases q⟩
  keep := fun i h h' st kp => by
    obtain ⟨hz, hTI, ⟨x, y, hTO⟩, h1, h2⟩ := st
    refine ⟨kp z (by simp) _ hz, kp TI (by simp) _ hTI, ⟨x, y, kp TO (by simp) _ hTO⟩, ?_, ?_⟩
    · exact h1.moved fun o => kp c1 (by simp) o
    · exact h2.moved fun o => kp c2 (by simp) o
  item := by
    intro X hP hw hK hc i pins s σ H E I hf st hg
    subst hP hw hK
    obtain ⟨hz, hTI, ⟨x0, y0, hTO⟩, h1, h2⟩ := st
    obtain ⟨xs, ys, x, y, qx, qy, hx, hy⟩ := hg
    obtain ⟨us, rv, p1, _⟩ := sq_at I qx
    obtain ⟨vs, rv2, p2, _⟩ := sq_at I qy
    obtain ⟨u, hu, ru⟩ := rv.get hx
    obtain ⟨v, hv, rw2⟩ := rv2.get hy
    have zl : z < s.heap.objs.size := Heap.lt_size hz
    have ex : ∀ c, c ∈ [z, TI, TO, c1, c2] → c < s.heap.objs.size := fun c hcm => by
      obtain ⟨o1, e1, _⟩ := h1.obj
      obtain ⟨o2, e2, _⟩ := h2.obj
      simp only [List.mem_cons, List.not_mem_nil, or_false] at hcm
      rcases hcm with rfl | rfl | rfl | rfl | rfl
      · exact zl
      · exact Heap.lt_size hTI
      · exact Heap.lt_size hTO
      · exact Heap.lt_size e1
      · exact Heap.lt_size e2
    refine py_item D hz hTI hTO h1 h2 p1 p2 (x := u) (y := v) (by simpa using hu) (by simpa using hv) fun h' L => ⟨_, rfl, ?_⟩
    refine wpAny_letOwnedTupleGo_zip (s := { s with heap := h' }) L.hz fun h2' z2 sb => ?_
    have pr : h2'.get? s.heap.objs.size = some { cls := .type "tuple", data := .seq #[u, v] } := (sb.2 _ (Nat.ne_of_gt zl)).trans L.new
    have nw : ObjOk X.prog X.w (upd H s.heap.objs.size (.tup [x, y])) h2' s.heap.objs.size (.tup [x, y]) := ⟨by show 2 ≤ sizeLine; decide, [u, v], .cons ru (.cons rw2 .nil), _, pr, rfl, _, rfl⟩
    have I1 : Inv X pins σ (upd H s.heap.objs.size (.tup [x, y])) { s with heap := h2' } :=
      I.turnedNew (t' := s.toks) (ch := [z, TI, TO, c1, c2]) (fun c o hb q => by
        simp only [List.mem_cons, List.not_mem_nil, or_false, not_or] at hb
        exact (sb.2 c hb.1).trans (L.kept c o hb.1 hb.2.2.1 hb.2.2.2.1 hb.2.2.2.2 q)) hf (Nat.le_refl _) nw
    refine ⟨.ref s.heap.objs.size, _, I1, rfl, ⟨_, x, y, rfl, I.hok.fresh (Nat.le_refl _), rfl, fun l hl => by rw [sq_inj I hl qx]; exact hx, fun l hl => by rw [sq_inj I hl qy]; exact hy⟩, ⟨z2, ?_, ⟨u, v, ?_⟩, ?_, ?_⟩, fun c hcm => ?_⟩
    · exact (sb.2 _ D.TIz).trans (L.kept _ _ D.TIz D.TITO D.TIi1 D.TIi2 hTI)
    · exact (sb.2 _ D.TOz).trans L.hTO
    · exact L.h1.moved fun o q => (sb.2 _ D.i1z).trans q
    · exact L.h2.moved fun o q => (sb.2 _ D.i2z).trans q
    · rw [upd_ne (Nat.ne_of_lt (ex c hcm))]
      exact (hf c hcm).1
  done := by
    intro X hP hw hK hc i pins s σ H E I hf st hg
    subst hP hw hK
    obtain ⟨hz, hTI, ⟨x0, y0, hTO⟩, h1, h2⟩ := st
    obtain ⟨xs, ys, qx, qy, he⟩ := hg
    obtain ⟨us, rv, p1, _⟩ := sq_at I qx
    obtain ⟨vs, rv2, p2, _⟩ := sq_at I qy
    have l1 := rv.length
    have l2 := rv2.length
    have hn : us.toArray[i]? = none ∨ vs.toArray[i]? = none := he.imp (fun q => by simp; omega) fun q => by simp; omega
    refine py_end (I.ok.hd hc) D hz hTI hTO h1 h2 p1 p2 hn fun h' kp => ⟨rfl, I.turnedL (t' := s.toks) (ch := [z, TI, TO, c1, c2]) (fun c o hb q => ?_) hf⟩
    simp only [List.mem_cons, List.not_mem_nil, or_false, not_or] at hb
    exact kp c o hb.1 hb.2.2.1 hb.2.2.2.1 hb.2.2.2.2 q
  self := fun A i s Q E st h => wpAny_pyIter_zip st.1 h
def iX (K : PySem.W.Frag) (ta : TA) : TI := fun σ H R => ta σ H fun vs H1 => ∃ kx ky a b xs ys, vs = [.ref a, .ref b] ∧ Mix kx ky ∧ SqK kx K H1 a xs ∧ SqK ky K H1 b ys ∧ R (Itx kx ky K a b) H1
theorem pi_x {X : Cx} {e e2 : Expr} {ta : TA} {p pos tpos : Pos} {elts : List Expr} {kk : Nat} (hg : Gl X "zip") (hm : X.mg "zip" = none) (ha : PA X [e, e2] ta)
    (hs : starEach [e, e2] X.env = (false, eval e X.env) :: starEach [e2] X.env) (hpl : (backTo pos (starEach [e2] X.env)).any (·.1) = false) :
    PI X (.Tuple elts kk tpos) (.Call (.Name "zip" p) [e, e2] [] pos) (iX X.K ta) := by
  refine ⟨fun pins s σ H R I h => ?_⟩
  refine Call_ (ld_blt I hg hm PyProof.Rows.boot_zip (PyProof.Rows.callWith_type1 (thn (ha.run pos pins s σ H _ I h) fun us s1 ⟨vs, H1, I1, r1, q1⟩ => ?_) hs hpl))
  obtain ⟨kx, ky, a, b, xs, ys, rfl, mx, qx, qy, q⟩ := q1
  cases r1 with
  | cons r rr => cases rr with
    | cons r' rr =>
      cases rr; cases r; cases r'
      obtain ⟨_, _, p1, l1⟩ := sq_at I1 qx
      obtain ⟨_, _, p2, l2⟩ := sq_at I1 qy
      have five : ∀ c, c ∈ [s1.heap.objs.size + 4, s1.heap.objs.size + 2, s1.heap.objs.size + 3, s1.heap.objs.size, s1.heap.objs.size + 1] → FpOk X pins H1 c := fun c hcm => by
        have hle : s1.heap.objs.size ≤ c := by
          simp only [List.mem_cons, List.not_mem_nil, or_false] at hcm
          omega
        exact I1.fpOk hle (I1.hok.fresh hle)
      refine made mx p1 p2 fun h' hz hTI hTO h1 h2 kp => wpAny_pyIter_zip hz ?_
      exact ⟨_, _, _, _, H1, rfl, I1.kept (t' := s1.toks) kp, turn_x (PySem.W.ktu_apart s1.heap.objs.size a b l1 l2), ⟨hz, hTI, ⟨_, _, hTO⟩, h1, h2⟩, five, q⟩
end ZX
set_option maxHeartbeats 4000000
/-! tuple * 1 -/
namespace ZT
open PySem PySem.Spec PyProof.Rows L2
theorem tuple_mul1 (l : Addr) (items : Array Value) (n : Nat) (dd : Option Addr) (sl : Array (Option Value)) (x : Int) (u : Tok) (hx : x = 1) :
    Meets (Builtin.«tuple.__mul__» ⟨[.ref l, .int x u], []⟩) (fun _ R s => s.heap.get? l = some { cls := .type "tuple", dict := dd, data := .seq items n, slots := sl } ∧
      R (.ok (.ret (Value.ref l))) { s with heap := s.heap, toks := s.toks }) :=
  .of_wp fun prog w A R s h => by
    obtain ⟨hp, g, d, tk, os⟩ := s
    obtain ⟨hl, h⟩ := h
    have f1 := AutoSeq1.idx_int
    have c0 : (decide (x < -(2 ^ 63)) || decide (x ≥ 2 ^ 63)) = false := by subst hx; rfl
    have c1 : (items.isEmpty || x == 1) = true := by subst hx; simp
    wp_walk using wpAny_loadPart' hl
    repeat (first
      | (refine wpAny_ite_false (decide_eq_false (by rw [c0]; exact Bool.false_ne_true)) ?_; wp_walk using wpAny_loadPart' hl)
      | (refine wpAny_ite_true (decide_eq_true (by rw [c1])) ?_; wp_walk using wpAny_loadPart' hl))
    exact ⟨_, rfl, h⟩
def rRep1 (K : PySem.W.Frag) : R2 := fun x y H Q => ∃ l xs, x = .ref l ∧ y = .int 1 ∧ SqT K H l xs ∧ Q (.ref l) H
theorem op_rep1 {X : Cx} : OpR X (binaryOp .Mult) (rRep1 X.K) := by
  intro pins s σ H x y v u Q I rx ry h
  obtain ⟨l, xs, rfl, rfl, hT, q⟩ := h
  cases rx
  obtain ⟨t, rfl⟩ := ry
  obtain ⟨its, r, ⟨⟨cls, dd, data, sl⟩, ho, hc, n, hd⟩, hs⟩ := I.tuple hT
  simp only at hc hd
  subst hc hd
  refine wpAny_binaryOp_repeat_ref (T := "tuple") (U := "int") (by decide) ⟨_, ho, rfl⟩ (fun s' => typeIs_int s' 1 t) noFill_tuple_mul F.fills_int_mul F.slot_int_rmul repeat_tuple F.slot_int_index.lookup
    (call_meets F.slot_int_rmul (typeIs_int s 1 t) F.entry_int_rmul (F.args_int_rmul_2 _ _) (int_rmul_tuple 1 t l its.toArray n dd sl)
      ⟨ho, rfl, ⟨_, ho, rfl⟩, call_meets F.slot_tuple_mul ⟨_, ho, rfl⟩ F.entry_tuple_mul (F.args_tuple_mul_2 _ _) (tuple_mul1 l its.toArray n dd sl 1 t rfl) ⟨ho, ?_⟩⟩)
  exact ⟨.ref l, H, I, rfl, q⟩
theorem tuple_mul0 (l : Addr) (items : Array Value) (n : Nat) (dd : Option Addr) (sl : Array (Option Value)) (x : Int) (u : Tok) (h0 : x ≤ 0) (h1 : -1000000 ≤ x) (hi : items.isEmpty = false) :
    Meets (Builtin.«tuple.__mul__» ⟨[.ref l, .int x u], []⟩) (fun _ R s => s.heap.get? l = some { cls := .type "tuple", dict := dd, data := .seq items n, slots := sl } ∧
      R (.ok (.ret (Value.ref s.heap.objs.size))) { s with heap := s.heap.push { cls := Value.type "tuple", data := Data.seq #[] }, toks := s.toks }) :=
  .of_wp fun prog w A R s h => by
    obtain ⟨hp, g, d, tk, os⟩ := s
    obtain ⟨hl, h⟩ := h
    have f1 := AutoSeq1.idx_int
    have c0 : (decide (x < -(2 ^ 63)) || decide (x ≥ 2 ^ 63)) = false := by
      rw [decide_eq_false (by omega), decide_eq_false (by omega)] <;> rfl
    have c1 : (items.isEmpty || x == 1) = false := by
      rw [hi, Bool.false_or]
      exact beq_eq_false_iff_ne.mpr (by omega)
    have c2 : (decide (x ≤ 0) || items.isEmpty) = true := by rw [decide_eq_true h0, Bool.true_or]
    wp_walk using wpAny_loadPart' hl
    repeat (first
      | (refine wpAny_ite_false (decide_eq_false (by rw [c0]; exact Bool.false_ne_true)) ?_; wp_walk using wpAny_loadPart' hl)
      | (refine wpAny_ite_false (decide_eq_false (by rw [c1]; exact Bool.false_ne_true)) ?_; wp_walk using wpAny_loadPart' hl)
      | (refine wpAny_ite_true (decide_eq_true (by rw [c2])) ?_; wp_walk using wpAny_loadPart' hl))
    exact ⟨_, rfl, h⟩
def rRep0 (K : PySem.W.Frag) : R2 := fun x y H Q => ∃ l xs k, x = .ref l ∧ y = .int k ∧ SqT K H l xs ∧ xs ≠ [] ∧ k ≤ 0 ∧ -1000000 ≤ k ∧ ∀ p, H p = none → Q (.ref p) (upd H p (.tup []))
theorem op_rep0 {X : Cx} : OpR X (binaryOp .Mult) (rRep0 X.K) := by
  intro pins s σ H x y v u Q I rx ry h
  obtain ⟨l, xs, k, rfl, rfl, hT, hne, h0, h1, q⟩ := h
  cases rx
  obtain ⟨t, rfl⟩ := ry
  obtain ⟨its, r, ⟨⟨cls, dd, data, sl⟩, ho, hc, n, hd⟩, hs⟩ := I.tuple hT
  simp only at hc hd
  subst hc hd
  have hle : its.length = xs.length := r.length.symm
  have hi : its.toArray.isEmpty = false := by
    cases its with
    | nil => exact absurd (List.eq_nil_of_length_eq_zero hle.symm) hne
    | cons a b => rfl
  refine wpAny_binaryOp_repeat_ref (T := "tuple") (U := "int") (by decide) ⟨_, ho, rfl⟩ (fun s' => typeIs_int s' k t) noFill_tuple_mul F.fills_int_mul F.slot_int_rmul repeat_tuple F.slot_int_index.lookup
    (call_meets F.slot_int_rmul (typeIs_int s k t) F.entry_int_rmul (F.args_int_rmul_2 _ _) (int_rmul_tuple k t l its.toArray n dd sl)
      ⟨ho, rfl, ⟨_, ho, rfl⟩, call_meets F.slot_tuple_mul ⟨_, ho, rfl⟩ F.entry_tuple_mul (F.args_tuple_mul_2 _ _) (tuple_mul0 l its.toArray n dd sl k t h0 h1 hi) ⟨ho, ?_⟩⟩)
  refine ⟨.ref s.heap.objs.size, _, I.laid (t' := s.toks) (fun b o e => Heap.get?_push_of_some _ e) (Nat.le_refl _) ?_, rfl, q _ (I.hok.fresh (Nat.le_refl _))⟩
  exact ⟨by show 0 ≤ sizeLine; omega, [], .nil, ⟨_, Heap.get?_push_size _ rfl, rfl, _, rfl⟩⟩
/-! ## t[::-1] of a tuple -/
section
open HT
variable {prog : Program} {w : World} {A : Around} {E : Value → Shared → Prop} {s : Shared}
theorem adjust_rev (n : Nat) : Builtin.Slice.sliceAdjust none none (-1) (n : Int) = ((n : Int) - 1, -1) := rfl
theorem places_rev (n : Nat) : Builtin.Slice.slicePlaces ((n : Int) - 1) (-1) (-1) = n := by
  unfold Builtin.Slice.slicePlaces
  have h1 : ¬ ((-1 : Int) > 0) := by omega
  simp only [h1, if_false]
  split
  · have : ((n : Int) - 1 - (-1) - 1) / (- -1) + 1 = n := by
      rw [show (- -1 : Int) = 1 by rfl, Int.ediv_one]; omega
    omega
  · omega
theorem sliceApplied_rev {sl : Addr} {t : Tok} {n : Nat} {Q : Int × Int × Nat → Shared → Prop} (hs : s.heap.IsSliceOf sl .none .none (.int (-1) t))
    (h : Q ((n : Int) - 1, -1, n) s) : wpAny (model prog w) A (Builtin.Slice.sliceApplied (.ref sl) (pure (n : Int))) Q E s := by
  obtain ⟨os, hos, hcs, hds⟩ := id hs
  unfold Builtin.Slice.sliceApplied Builtin.Slice.sliceFields
  refine wpAny_bind (wpAny_bind (wpAny_field hos hds (x := .none) rfl (wpAny_bind (wpAny_field hos hds (x := .none) rfl (wpAny_bind (wpAny_field hos hds (x := .int (-1) t) rfl (wpAny_pure ?_)))))))
  refine wpAny_bind (slicePart_int ?_)
  show wpAny _ _ (if ((-1 : Int) == 0) = true then _ else _) _ _ s
  rw [if_neg (by decide)]
  refine wpAny_bind (slicePart_none (wpAny_bind (slicePart_none (wpAny_bind (wpAny_pure ?_)))))
  show wpAny _ _ (match Builtin.Slice.sliceAdjust none none (-1) (n : Int) with | (lo, hi) => pure (lo, (-1 : Int), Builtin.Slice.slicePlaces lo hi (-1))) _ _ s
  rw [adjust_rev]
  show wpAny _ _ (pure ((n : Int) - 1, (-1 : Int), Builtin.Slice.slicePlaces ((n : Int) - 1) (-1) (-1))) _ _ s
  rw [places_rev]
  exact wpAny_pure h
theorem pick_rev (xs : Array Value) : ((List.range xs.size).filterMap fun (m : Nat) => xs[(((xs.size : Nat) : Int) - 1 + (m : Int) * -1).toNat]?).toArray = xs.toList.reverse.toArray := by
  congr 1
  apply List.ext_getElem?
  intro i
  have e : (List.range xs.size).filterMap (fun (m : Nat) => xs[(((xs.size : Nat) : Int) - 1 + (m : Int) * -1).toNat]?) = (List.range xs.size).map (fun m => xs.toList.getD (xs.size - 1 - m) .none) := by
    have gen : ∀ l : List Nat, (∀ m ∈ l, m < xs.size) → l.filterMap (fun (m : Nat) => xs[(((xs.size : Nat) : Int) - 1 + (m : Int) * -1).toNat]?) = l.map (fun m => xs.toList.getD (xs.size - 1 - m) .none) := by
      intro l
      induction l with
      | nil => intro _; rfl
      | cons m l ih =>
        intro hl
        have hm' := hl m List.mem_cons_self
        have e2 : (((xs.size : Nat) : Int) - 1 + (m : Int) * -1).toNat = xs.size - 1 - m := by omega
        have hlt : xs.size - 1 - m < xs.size := by omega
        have e3 : xs[(((xs.size : Nat) : Int) - 1 + (m : Int) * -1).toNat]? = some (xs.toList.getD (xs.size - 1 - m) .none) := by
          rw [e2, Array.getElem?_eq_getElem hlt, List.getD_eq_getElem?_getD, List.getElem?_eq_getElem (by simpa using hlt)]
          simp
        rw [List.filterMap_cons, e3, List.map_cons, ih fun k hk => hl k (List.mem_cons_of_mem _ hk)]
    exact gen _ fun m hm => List.mem_range.mp hm
  rw [e]
  by_cases hi : i < xs.size
  · rw [List.getElem?_map, List.getElem?_range hi, List.getElem?_reverse (by simpa using hi)]
    show some (xs.toList.getD (xs.size - 1 - i) Value.none) = _
    rw [List.getD_eq_getElem?_getD, Array.length_toList]
    have hlt : xs.size - 1 - i < xs.toList.length := by rw [Array.length_toList]; omega
    rw [List.getElem?_eq_getElem hlt]
    rfl
  · rw [List.getElem?_eq_none (by simp; omega), List.getElem?_eq_none (by simp; omega)]
theorem getItem_tuple_rev {t sl : Addr} {items : Array Value} {tk : Tok} {Q : Value → Shared → Prop} (ht : IsTup s.heap t items) (hs : s.heap.IsSliceOf sl .none .none (.int (-1) tk))
    (h : Q (.ref s.heap.objs.size) { s with heap := s.heap.push { cls := .type "tuple", data := .seq items.toList.reverse.toArray } })
    (hsz : items.size ≤ sizeLine) : wpAny (model prog w) A (getItem (.ref t) (.ref sl)) Q E s := by
  have htake : sizeOk (.seq items.toList.reverse.toArray) := by
    show items.toList.reverse.toArray.size ≤ sizeLine
    rw [List.size_toArray, List.length_reverse, Array.length_toList]
    exact hsz
  obtain ⟨os, hos, hcs, hds⟩ := id hs
  have hTs : s.TypeIs (.ref sl) "slice" := ⟨os, hos, hcs⟩
  unfold getItem
  try with_reducible refine wpAny_holding ?_
  first | refine wpAny_bind (wpAny_pure ?_) | skip
  refine wpAny_bind (wpAny_sequenceKey ht.typeIs (by decide) ?_)
  refine wpAny_bind (wpAny_callSpecial?_slot (name := Str.ofString "__getitem__") ht.typeIs PyProof.Rows.slot_tuple_getitem
    (wpAny_call_entry PyProof.Rows.slot_tuple_getitem ht.typeIs entry_tuple_getitem ?_ (args_tuple_getitem _ _)))
  show wpAny _ _ (Builtin.Tuple.tupleItemsOf (.ref t) >>= _) _ _ s
  refine wpAny_bind (tupleItemsOf_ ht ?_)
  refine wpAny_bind (wpAny_typeOf hTs ?_)
  rw [if_pos (by decide)]
  refine wpAny_bind (sliceApplied_rev hs ?_)
  have hno : ¬ (((((items.size : Nat) : Int) - 1) == 0 && (-1 : Int) == 1 && items.size == items.size) = true) := by
    intro q
    rw [Bool.and_eq_true, Bool.and_eq_true] at q
    exact absurd q.1.2 (by decide)
  show wpAny _ _ (if ((((items.size : Nat) : Int) - 1) == 0 && (-1 : Int) == 1 && items.size == items.size) = true then _ else _) _ _ s
  rw [if_neg hno, pick_rev]
  first
    | exact wpAny_bind (m := Builtin.Tuple.tupleExact _) (wpAny_newObj_type (wpAny_pure ⟨_, rfl, wpAny_pure h⟩) htake)
    | exact wpAny_bind (m := Builtin.Tuple.tupleExact _) (wpAny_newObj_type (wpAny_bind (wpAny_pure (wpAny_pure ⟨_, rfl, wpAny_pure h⟩))) htake)
    | exact wpAny_bind (wpAny_bind (m := Builtin.Tuple.tupleExact _) (wpAny_newObj_type (wpAny_pure (wpAny_pure ⟨_, rfl, wpAny_pure h⟩)) htake))
    | exact wpAny_bind (wpAny_bind (m := Builtin.Tuple.tupleExact _) (wpAny_newObj_type (wpAny_pure ⟨_, rfl, wpAny_pure h⟩) htake))
end
def tRevT (K : PySem.W.Frag) (te : TE) : TE := fun σ H Q => te σ H fun x H1 => ∃ a xs, x = .ref a ∧ ((SqL K H1 a xs ∧ ∀ p, H1 p = none → Q (.ref p) (upd H1 p (.lst xs.reverse))) ∨
  (SqT K H1 a xs ∧ ∀ p, H1 p = none → Q (.ref p) (upd H1 p (.tup xs.reverse))))
theorem pe_revT {X : Cx} {e : Expr} {te : TE} {k : Nat} {p1 p2 p3 pos : Pos} (he : PE X e te) : PE X (.Subscript e (.Slice none none (some (.UnaryOp .USub (.Constant (.int 1) k p1) p2)) p3) pos) (tRevT X.K te) := by
  refine ⟨fun pins s σ H Q I h => ?_⟩
  refine Subscript_ (thn (he.run pins s σ H _ I h) fun v s1 ⟨x, H1, I1, r1, q1⟩ => ?_)
  obtain ⟨a, xs, ex, hx⟩ := q1
  subst ex
  cases r1
  have hst : PO X (some (.UnaryOp .USub (.Constant (.int 1) k p1) p2)) (tPart (tUn (rU fun i => .int (-i)) (tC (.int 1)))) := po_some (pe_un un_neg pe_int)
  refine wpAny_Slice (thn (po_none.run pins s1 σ H1 (fun o H2 => o = none ∧ H2 = H1) I1 ⟨rfl, rfl⟩) fun vl s2 ⟨l, H2, I2, pl, el, e2⟩ => ?_)
  subst el e2
  refine thn (po_none.run pins s2 σ H2 (fun o H3 => o = none ∧ H3 = H2) I2 ⟨rfl, rfl⟩) fun vu s3 ⟨u, H3, I3, pu, eu, e3⟩ => ?_
  subst eu e3
  refine thn (hst.run pins s3 σ H3 (fun o H4 => o = some (-1) ∧ H4 = H3) I3 ⟨1, rfl, -1, rfl, rfl, rfl⟩) fun vs s4 ⟨o, H4, I4, ps, eo, e4⟩ => ?_
  subst eo e4
  have I5 : Inv X pins σ H4 { s4 with heap := s4.heap.push { cls := .type "slice", data := .fields #[vl, vu, vs] } } := I4.kept (t' := s4.toks) fun b ob q => Heap.get?_push_of_some _ q
  have sl := Heap.IsSliceOf.new s4.heap vl vu vs
  show wpAny (model X.prog X.w) X.A (subscriptTail e (.Slice none none (some (.UnaryOp .USub (.Constant (.int 1) k p1) p2)) p3) (.ref a) (.ref s4.heap.objs.size)) (EP X pins σ Q) X.xe { s4 with heap := s4.heap.push { cls := .type "slice", data := .fields #[vl, vu, vs] } }
  rcases hx with ⟨hx, q⟩ | ⟨hx, q⟩
  · obtain ⟨its, r, ht, hz⟩ := I5.list hx
    have hlen := r.length
    refine tail_any (ops := [.ref a, .ref s4.heap.objs.size]) ht.isList.typeIs (PySem.slot_list_getitem.lookup) ?_ (by with_unfolding_all rfl)
    refine wpAny_getItem_list_slice ht.isList sl pl pu ps (by decide) ?_ (by rw [List.size_toArray]; omega)
    rw [PySem.W.krv_pick]
    refine ⟨.ref _, _, I5.laid (t' := s4.toks) (o := .lst xs.reverse) (fun b ob q => Heap.get?_push_of_some _ q) (Nat.le_refl _) ?_, rfl, q _ (I5.hok.fresh (Nat.le_refl _))⟩
    exact ⟨by rw [List.length_reverse]; exact hz, _, 0, r.reverse, Heap.get?_push_size _ rfl⟩
  · obtain ⟨its, r, ht, hz⟩ := I5.tuple hx
    have hlen := r.length
    cases pl
    cases pu
    cases ps with
    | int _ tk =>
      refine tail_any (ops := [.ref a, .ref s4.heap.objs.size]) ht.typeIs (PyProof.Rows.slot_tuple_getitem.lookup) ?_ (by with_unfolding_all rfl)
      refine getItem_tuple_rev ht sl ?_ (by rw [List.size_toArray]; omega)
      refine ⟨.ref _, _, I5.laid (t' := s4.toks) (o := .tup xs.reverse) (fun b ob q => Heap.get?_push_of_some _ q) (Nat.le_refl _) ?_, rfl, q _ (I5.hok.fresh (Nat.le_refl _))⟩
      exact ⟨by rw [List.length_reverse]; exact hz, _, r.reverse, ⟨_, Heap.get?_push_size _ rfl, rfl, _, rfl⟩⟩
/-! ## sum, max, min of a tuple of ints -/
section
variable {prog : Program} {w : World} {A : Around} {E : Value → Shared → Prop} {s : Shared} {l : Addr} {xs : Array (Int × Tok)} {its : List Value} {ns : List Int} {Q : Value → Shared → Prop}
theorem old_keptT {h h' : Heap} {o : Obj} (hk : ∀ b x, b ∉ [h.objs.size] → (h.push o).get? b = some x → h'.get? b = some x) : ∀ b x, h.get? b = some x → h'.get? b = some x :=
  fun b x e => hk b x (fun m => absurd (Heap.lt_size e) ((List.mem_singleton.mp m) ▸ Nat.lt_irrefl _)) (Heap.get?_push_of_some _ e)
theorem sum_intTuple (hh : A.handled = none) (hl : s.heap.IsTuple l (intItems xs))
    (h : ∀ h' tk t', (∀ b o, s.heap.get? b = some o → h'.get? b = some o) → Q (.int (preSum (numAt xs) xs.size) t') { s with heap := h', toks := tk }) :
    wpAny (model prog w) A (call (.builtin "sum") [.ref l]) Q E s := by
  have hlt : l < s.heap.objs.size := by obtain ⟨_, e, _⟩ := hl; exact Heap.lt_size e
  refine call_sum_walkG (PySem.W.iter_tupleW (A := A.in1) hh hl fun s₂ e W st hfp hw hk => ?_)
  subst e
  refine ⟨_, _, _, _, _, _, numAt xs, rfl, Walks.tuple (A := A.in1) hh _ l (Nat.ne_of_lt hlt) (intItems xs), st, hfp, (fun _ _ => intItems_at), fun h' tk t' hk => ?_⟩
  have := h h' tk t' (old_keptT hk)
  simpa [intItems] using this
theorem max_intTuple (hh : A.handled = none) (hl : s.heap.IsTuple l (intItems xs)) (hne : 0 < xs.size)
    (h : ∀ v h' tk, (intItems xs)[argBest (fun i j => decide (numAt xs i > numAt xs j)) (xs.size - 1)]? = some v → (∀ b o, s.heap.get? b = some o → h'.get? b = some o) → Q v { s with heap := h', toks := tk }) :
    wpAny (model prog w) A (call (.builtin "max") [.ref l]) Q E s := by
  have hlt : l < s.heap.objs.size := by obtain ⟨_, e, _⟩ := hl; exact Heap.lt_size e
  refine call_max_walk (PySem.W.iter_tupleW (A := A.in1) hh hl fun s₂ e W st hfp hw hk => ?_)
  subst e
  refine ⟨_, _, _, _, _, _, _, rfl, Walks.tuple (A := A.in1) hh _ l (Nat.ne_of_lt hlt) (intItems xs), st, hfp, by simpa [intItems] using hne, CmpOf.ints_gt (numAt xs) (fun _ _ => intItems_at), fun v h' tk hP hk => ?_⟩
  exact h v h' tk (by simpa [intItems] using hP) (old_keptT hk)
theorem min_intTuple (hh : A.handled = none) (hl : s.heap.IsTuple l (intItems xs)) (hne : 0 < xs.size)
    (h : ∀ v h' tk, (intItems xs)[argBest (fun i j => decide (numAt xs i < numAt xs j)) (xs.size - 1)]? = some v → (∀ b o, s.heap.get? b = some o → h'.get? b = some o) → Q v { s with heap := h', toks := tk }) :
    wpAny (model prog w) A (call (.builtin "min") [.ref l]) Q E s := by
  have hlt : l < s.heap.objs.size := by obtain ⟨_, e, _⟩ := hl; exact Heap.lt_size e
  refine call_min_walk (PySem.W.iter_tupleW (A := A.in1) hh hl fun s₂ e W st hfp hw hk => ?_)
  subst e
  refine ⟨_, _, _, _, _, _, _, rfl, Walks.tuple (A := A.in1) hh _ l (Nat.ne_of_lt hlt) (intItems xs), st, hfp, by simpa [intItems] using hne, CmpOf.ints_lt (numAt xs) (fun _ _ => intItems_at), fun v h' tk hP hk => ?_⟩
  exact h v h' tk (by simpa [intItems] using hP) (old_keptT hk)
theorem sum_rawT (hh : A.handled = none) (hl : s.heap.IsTuple l its.toArray) (hi : IntsAre its ns)
    (h : ∀ h' tk t', (∀ b o, s.heap.get? b = some o → h'.get? b = some o) → Q (.int ns.sum t') { s with heap := h', toks := tk }) : wpAny (model prog w) A (call (.builtin "sum") [.ref l]) Q E s := by
  obtain ⟨xs, e⟩ := hi.allInts.items
  have hn : numsOf (intItems xs).toList = ns := by rw [← e]; exact hi.numsOf
  rw [nums_intItems] at hn
  rw [e] at hl
  refine sum_intTuple hh hl fun h' tk t' hk => ?_
  have := h h' tk t' hk
  rw [preSum_eq, List.take_of_length_le (by simp), hn]; exact this
theorem max_rawT (hh : A.handled = none) (hl : s.heap.IsTuple l its.toArray) (hi : IntsAre its ns) (hne : 0 < ns.length)
    (h : ∀ h' tk M t', (∀ b o, s.heap.get? b = some o → h'.get? b = some o) → M ∈ ns → (∀ a, a ∈ ns → a ≤ M) → Q (.int M t') { s with heap := h', toks := tk }) : wpAny (model prog w) A (call (.builtin "max") [.ref l]) Q E s := by
  obtain ⟨xs, e⟩ := hi.allInts.items
  have hn : numsOf (intItems xs).toList = ns := by rw [← e]; exact hi.numsOf
  rw [nums_intItems] at hn
  subst hn
  rw [e] at hl
  have hsz : 0 < xs.size := by simpa using hne
  refine max_intTuple hh hl hsz fun v h' tk hv hk => ?_
  obtain ⟨t, rfl⟩ := intItems_at hv
  obtain ⟨h1, h2⟩ := argBest_gt (numAt xs) (xs.size - 1)
  refine h h' tk _ t hk ?_ fun a ha => ?_
  · rw [numAt_eq]; exact PySem.getD_mem (by rw [List.length_map, Array.length_toList]; omega)
  · obtain ⟨j, hj, rfl⟩ := mem_getD ha
    rw [List.length_map, Array.length_toList] at hj
    rw [← numAt_eq]; exact h2 j (by omega)
theorem min_rawT (hh : A.handled = none) (hl : s.heap.IsTuple l its.toArray) (hi : IntsAre its ns) (hne : 0 < ns.length)
    (h : ∀ h' tk M t', (∀ b o, s.heap.get? b = some o → h'.get? b = some o) → M ∈ ns → (∀ a, a ∈ ns → M ≤ a) → Q (.int M t') { s with heap := h', toks := tk }) : wpAny (model prog w) A (call (.builtin "min") [.ref l]) Q E s := by
  obtain ⟨xs, e⟩ := hi.allInts.items
  have hn : numsOf (intItems xs).toList = ns := by rw [← e]; exact hi.numsOf
  rw [nums_intItems] at hn
  subst hn
  rw [e] at hl
  have hsz : 0 < xs.size := by simpa using hne
  refine min_intTuple hh hl hsz fun v h' tk hv hk => ?_
  obtain ⟨t, rfl⟩ := intItems_at hv
  obtain ⟨h1, h2⟩ := argBest_lt (numAt xs) (xs.size - 1)
  refine h h' tk _ t hk ?_ fun a ha => ?_
  · rw [numAt_eq]; exact PySem.getD_mem (by rw [List.length_map, Array.length_toList]; omega)
  · obtain ⟨j, hj, rfl⟩ := mem_getD ha
    rw [List.length_map, Array.length_toList] at hj
    rw [← numAt_eq]; exact h2 j (by omega)
end
section
variable {X : Cx}
def rSumT (K : PySem.W.Frag) : List V → Hp → VK → Prop := fun vs H Q => ∃ (a : Addr) (ns : List Int), vs = [V.ref a] ∧ (SqL K H a (ns.map V.int) ∨ SqT K H a (ns.map V.int)) ∧ Q (.int ns.sum) H
def rMaxT (K : PySem.W.Frag) : List V → Hp → VK → Prop := fun vs H Q => ∃ (a : Addr) (ns : List Int), vs = [V.ref a] ∧ (SqL K H a (ns.map V.int) ∨ SqT K H a (ns.map V.int)) ∧ 0 < ns.length ∧ ∀ m, m ∈ ns → (∀ y, y ∈ ns → y ≤ m) → Q (.int m) H
def rMinT (K : PySem.W.Frag) : List V → Hp → VK → Prop := fun vs H Q => ∃ (a : Addr) (ns : List Int), vs = [V.ref a] ∧ (SqL K H a (ns.map V.int) ∨ SqT K H a (ns.map V.int)) ∧ 0 < ns.length ∧ ∀ m, m ∈ ns → (∀ y, y ∈ ns → m ≤ y) → Q (.int m) H
theorem cr_sumT (hc : X.calm = true) : CallR X (.builtin "sum") (rSumT X.K) := by
  intro pins s σ H vs us Q I r h
  obtain ⟨a, ns, rfl, hs | hs, q⟩ := h
  · exact cr_sum hc pins s σ H _ us Q I r ⟨a, ns, rfl, hs, q⟩
  · obtain ⟨its, rv, hl, _⟩ := I.tuple hs
    rw [Vals.ref1 r]
    exact sum_rawT (I.ok.hd hc) hl rv.ints fun h' tk t' hk => ⟨.int _, H, I.kept hk, ⟨_, rfl⟩, q⟩
theorem cr_maxT (hc : X.calm = true) : CallR X (.builtin "max") (rMaxT X.K) := by
  intro pins s σ H vs us Q I r h
  obtain ⟨a, ns, rfl, hs | hs, hne, q⟩ := h
  · exact cr_max hc pins s σ H _ us Q I r ⟨a, ns, rfl, hs, hne, q⟩
  · obtain ⟨its, rv, hl, _⟩ := I.tuple hs
    rw [Vals.ref1 r]
    exact max_rawT (I.ok.hd hc) hl rv.ints hne fun h' tk m t' hk h1 h2 => ⟨.int _, H, I.kept hk, ⟨_, rfl⟩, q m h1 h2⟩
theorem cr_minT (hc : X.calm = true) : CallR X (.builtin "min") (rMinT X.K) := by
  intro pins s σ H vs us Q I r h
  obtain ⟨a, ns, rfl, hs | hs, hne, q⟩ := h
  · exact cr_min hc pins s σ H _ us Q I r ⟨a, ns, rfl, hs, hne, q⟩
  · obtain ⟨its, rv, hl, _⟩ := I.tuple hs
    rw [Vals.ref1 r]
    exact min_rawT (I.ok.hd hc) hl rv.ints hne fun h' tk m t' hk h1 h2 => ⟨.int _, H, I.kept hk, ⟨_, rfl⟩, q m h1 h2⟩
end
end ZT
namespace DL
open PySem

/-! ## data -/
inductive D where
  | non | bl (b : Bool) | int (i : Int) | str (s : Str)
  | tup (xs : List D) | lst (xs : List D) | dic (kvs : List (Sum Int Str × D))
  | fn (x : Str) | ty (n : String) | rol (xs : List D)
deriving Inhabited

mutual
def D.py : D → PyData
  | .non => .none
  | .bl b => .bool b
  | .int i => .int i
  | .str s => .str s
  | .tup xs => .tuple (D.pys xs)
  | .lst xs => .list (D.pys xs)
  | .dic _ => .none
  | .fn _ => .none
  | .ty _ => .none
  | .rol _ => .none
def D.pys : List D → List PyData
  | [] => []
  | d :: r => d.py :: D.pys r
end
mutual
/-- no dict, no def, no class in it -/
def D.pure : D → Bool
  | .tup xs => D.pures xs
  | .lst xs => D.pures xs
  | .dic _ => false
  | .fn _ => false
  | .ty _ => false
  | .rol _ => false
  | _ => true
def D.pures : List D → Bool
  | [] => true
  | d :: r => d.pure && D.pures r
end
theorem D.pys_map : ∀ xs : List D, D.pys xs = xs.map D.py
  | [] => rfl
  | x :: xs => by rw [D.pys, D.pys_map xs, List.map_cons]

/-! ## results -/
inductive R (ε α : Type) where
  | ok (a : α) | exc (c : Str) (x : D) (e : ε) | bad
namespace R
variable {ε α β : Type}
def bind (r : R ε α) (f : α → R ε β) : R ε β := match r with
  | .ok a => f a
  | .exc c x e => .exc c x e
  | .bad => .bad
def map (f : α → β) (r : R ε α) : R ε β := match r with
  | .ok a => .ok (f a)
  | .exc c x e => .exc c x e
  | .bad => .bad
def ofO (o : Option α) : R ε α := match o with
  | some a => .ok a
  | none => .bad
@[simp] theorem bind_ok (a : α) (f : α → R ε β) : (R.ok a : R ε α).bind f = f a := rfl
@[simp] theorem bind_exc (c x) (e : ε) (f : α → R ε β) : (R.exc c x e : R ε α).bind f = .exc c x e := rfl
@[simp] theorem bind_bad (f : α → R ε β) : (R.bad : R ε α).bind f = .bad := rfl
@[simp] theorem map_ok (a : α) (f : α → β) : (R.ok a : R ε α).map f = .ok (f a) := rfl
@[simp] theorem map_exc (c x) (e : ε) (f : α → β) : (R.exc c x e : R ε α).map f = .exc c x e := rfl
@[simp] theorem map_bad (f : α → β) : (R.bad : R ε α).map f = .bad := rfl
@[simp] theorem ofO_some (a : α) : (R.ofO (some a) : R ε α) = .ok a := rfl
@[simp] theorem ofO_none : (R.ofO (none : Option α) : R ε α) = .bad := rfl
end R

/-- what a name holds: nothing; a value; a list (dict) that nobody else knows; one that a caller lent -/
inductive Slot where
  | emp | val (d : D) | own (d : D) | io (d : D)
deriving Inhabited
def Slot.d : Slot → D
  | .emp => .non
  | .val d => d
  | .own d => d
  | .io d => d
@[simp] theorem Slot.d_val (d : D) : (Slot.val d).d = d := rfl
@[simp] theorem Slot.d_own (d : D) : (Slot.own d).d = d := rfl
@[simp] theorem Slot.d_io (d : D) : (Slot.io d).d = d := rfl
/-- what may be changed here -/
def Slot.mu? : Slot → Option D
  | .own d => some d
  | .io d => some d
  | _ => none
def Slot.put : Slot → D → Slot
  | .own _, d => .own d
  | .io _, d => .io d
  | s, _ => s
abbrev Sts := List Slot

/-! ## codes -/
inductive Op where
  | bin (o : Operator) | neg | not | cmp (o : CmpOp)
  | ix | sl (lo hi : Bool) | slb
  | len | isi (n : String) | int | abs | all | any | sum | max | min | tuple | list | repr | str | tru | ck
  | join | index | count | upper | get1 | get2 | rev | sort | dict
  | inK (kvs : List (Str × Int)) (neg : Bool) | ixK (kvs : List (Str × Int))
inductive Mk where
  | tup | lst | dic
  deriving Repr
inductive Mu where
  | append | extend | pop | popi | insert
  deriving Repr
inductive Sk where
  | it | rng | enum | zip
  deriving Repr
inductive T where
  | name (i : Nat) (o : Bool) | tup (ts : List T)

inductive E where
  | lit (d : D)
  | var (i : Nat)
  | op (o : Op) (es : List E)
  | mk (o : Mk) (es : List E)
  | and (a b : E) | or (a b : E) | ife (t a b : E)
  | chain (a : E) (o : CmpOp) (b : E) (o2 : CmpOp) (c : E)
  | chain3 (a : E) (o : CmpOp) (b : E) (o2 : CmpOp) (c : E) (o3 : CmpOp) (d : E)
  | call (f : Nat) (m : List Bool) (es : List E)
  | callv (i : Nat) (fs : List (Str × Nat × Nat)) (es : List E)
  | mu (m : Mu) (i : Nat) (es : List E)
  | lc (vs : List Nat) (t : T) (k : Sk) (src : List E) (ifs : List E) (elt : E)

/-- what is said of an error of a class -/
inductive Wd where
  | pre (h : Str) | self | num (h : Str)
def Wd.run : Wd → D → Option D
  | .pre h, .str s => if h.length + s.length ≤ 100000 then some (.str (h ++ s)) else none
  | .self, x => some x
  | .num h, .int i => if i.natAbs.log2 < 100 then some (.str (h ++ toString i)) else none
  | _, _ => none
def wordD (hs : List (Str × Wd)) (c : Str) (x : D) : Option D := match hs.lookup c with
  | some k => k.run x
  | none => some (.str "other")
/-- what an error may be made of -/
def okX : D → Bool
  | .str s => decide (s.length ≤ 10000)
  | .int i => decide (i.natAbs.log2 < 100)
  | _ => false
inductive S where
  | asg (t : T) (e : E)
  | par (ts : List (Nat × Bool)) (es : List E)
  | seti (i : Nat) (k v : E)
  | aug (i : Nat) (o : Operator) (e : E)
  | ret (e : E) | retn | reto (i : Nat)
  | exp (e : E) | pass | brk | cnt
  | ite (t : E) (a b : List S)
  | whl (t : E) (b : List S)
  | for (t : T) (k : Sk) (src : List E) (b : List S)
  | raise (c : Str) (e : E)
  | tryn (b : List S)
  | tryw (b : List S) (hs : List (Str × Wd)) (i : Nat)

/-! ## what operators give -/
abbrev Line : Nat := 16777216
/-! ### tables by keys -/
abbrev Ky : Type := Sum Int Str
def keyD : D → Option Ky
  | .int i => some (.inl i)
  | .str s => some (.inr s)
  | _ => none
def valKD (kvs : List (Ky × D)) (k : Ky) : Option D := (kvs.find? fun kv => decide (kv.1 = k)).map (·.2)
def putKD (kvs : List (Ky × D)) (k : Ky) (v : D) : List (Ky × D) :=
  if (kvs.any fun kv => decide (kv.1 = k)) = true then kvs.map (fun kv => if kv.1 = k then (kv.1, v) else kv) else kvs ++ [(k, v)]
def mergeKD (kvs more : List (Ky × D)) : List (Ky × D) := more.foldl (fun acc kv => putKD acc kv.1 kv.2) kvs
/-- pairs (key, value) -/
def pairsKD : List D → Option (List (Ky × D))
  | [] => some []
  | .tup [a, b] :: r => match keyD a, pairsKD r with
    | some k, some l => some ((k, b) :: l)
    | _, _ => none
  | _ => none
def intKs : List (Ky × D) → Option (List Int)
  | [] => some []
  | (.inl i, _) :: r => (intKs r).map (i :: ·)
  | _ => none
def D.okd (d : D) : Bool := d.pure && SeqAt.shaped d.py
def D.eqv (a b : D) : Bool := PyData.eqv a.py b.py
def D.isNon : D → Bool
  | .non => true
  | _ => false
/-- truth of a value -/
def truth : D → Option Bool
  | .non => some false
  | .bl b => some b
  | .int i => some (i != 0)
  | .str s => if s.length ≤ Line then some (s.length != 0) else none
  | .tup xs => some (!xs.isEmpty)
  | .lst xs => some (!xs.isEmpty)
  | .dic kvs => some (!kvs.isEmpty)
  | _ => none
/-- a small divisor, a small factor -/
def smallI (i : Int) : Bool := decide (i.natAbs < 2 ^ 64)
def midI (i : Int) : Bool := decide (i.natAbs < 2 ^ 400)
def mulOk (i j : Int) : Bool := smallI i || smallI j || (midI i && midI j)
def divOk (j : Int) : Bool := decide (j ≠ 0) && midI j
def powOk (i j : Int) : Bool := decide (0 ≤ j) && decide (j ≤ 1000000) && decide (i.natAbs < 2 ^ 64)
def catS (a b : Str) : Option Slot := if a.length + b.length ≤ Line then some (.val (.str (a ++ b))) else none
def binf : Operator → D → D → Option Slot
  | .Add, .int i, .int j => some (.val (.int (i + j)))
  | .Sub, .int i, .int j => some (.val (.int (i - j)))
  | .Mult, .int i, .int j => if mulOk i j then some (.val (.int (i * j))) else none
  | .FloorDiv, .int i, .int j => if divOk j then some (.val (.int (i.fdiv j))) else none
  | .Mod, .int i, .int j => if j ≠ 0 then some (.val (.int (i.fmod j))) else none
  | .Pow, .int i, .int j => if powOk i j then some (.val (.int (i ^ j.toNat))) else none
  | .LShift, .int i, .int j => if powOk i j then some (.val (.int (i * 2 ^ j.toNat))) else none
  | .RShift, .int i, .int j => if 0 ≤ j then some (.val (.int (i / 2 ^ j.toNat))) else none
  | .BitAnd, .int i, .int j => some (.val (.int (Builtin.bitAnd i j)))
  | .BitOr, .int i, .int j => some (.val (.int (Builtin.bitOr i j)))
  | .Add, .str a, .str b => catS a b
  | .Add, .lst xs, .lst ys => if xs.length + ys.length ≤ Line then some (.own (.lst (xs ++ ys))) else none
  | .Add, .tup xs, .tup ys => if xs.length + ys.length ≤ Line then some (.val (.tup (xs ++ ys))) else none
  | .Mult, .lst xs, .int k => if 0 ≤ k ∧ k.toNat ≤ Line ∧ xs.length * k.toNat ≤ Line then some (.own (.lst (List.replicate k.toNat xs).flatten)) else none
  | .Mult, .tup xs, .int k => if xs.isEmpty = false ∧ k.natAbs ≤ 1000 ∧ xs.length ≤ 1000 then some (.val (.tup (List.replicate k.toNat xs).flatten)) else none
  | _, _, _ => none
/-- x op= y of what does not change in place -/
def augf : Operator → D → D → Option D
  | .Add, .int i, .int j => some (.int (i + j))
  | .Sub, .int i, .int j => some (.int (i - j))
  | .Mult, .int i, .int j => if mulOk i j then some (.int (i * j)) else none
  | .Add, .str a, .str b => if a.length + b.length ≤ Line then some (.str (a ++ b)) else none
  | _, _, _ => none
def cmpf : CmpOp → D → D → Option Bool
  | .Lt, .int i, .int j => some (decide (i < j))
  | .LtE, .int i, .int j => some (decide (i ≤ j))
  | .Gt, .int i, .int j => some (decide (j < i))
  | .GtE, .int i, .int j => some (decide (j ≤ i))
  | .Lt, .str i, .str j => some (decide (i.cps.toList < j.cps.toList))
  | .Eq, .str i, .str j => some (decide (i = j))
  | .NotEq, .str i, .str j => some (!decide (i = j))
  | .Eq, a, b => if a.okd && b.okd then some (a.eqv b) else none
  | .NotEq, a, b => if a.okd && b.okd then some (!a.eqv b) else none
  | .Is, a, .non => some a.isNon
  | .IsNot, a, .non => some (!a.isNon)
  | .Is, .bl a, .bl b => some (decide (a = b))
  | .IsNot, .bl a, .bl b => some (!decide (a = b))
  | .In, a, .lst xs => if a.okd && D.okd (.lst xs) then some (xs.any fun x => x.eqv a) else none
  | .NotIn, a, .lst xs => if a.okd && D.okd (.lst xs) then some (!xs.any fun x => x.eqv a) else none
  | .In, a, .tup xs => if a.okd && D.okd (.tup xs) then some (xs.any fun x => x.eqv a) else none
  | .NotIn, a, .tup xs => if a.okd && D.okd (.tup xs) then some (!xs.any fun x => x.eqv a) else none
  | .In, a, .dic kvs => (keyD a).map fun k => (valKD kvs k).isSome
  | .NotIn, a, .dic kvs => (keyD a).map fun k => !(valKD kvs k).isSome
  | _, _, _ => none
def ixf : D → D → Option D
  | .lst xs, .int i => L2.atI xs i
  | .tup xs, .int i => L2.atI xs i
  | .str z, .int i => if z.length ≤ Line then (L2.atI z.cps.toList i).map fun c => .str ⟨#[c]⟩ else none
  | .dic kvs, k => (keyD k).bind (valKD kvs)
  | _, _ => none
def partI : D → Option (Option Int)
  | .int i => some (some i)
  | _ => none
def cutD (xs : List D) (lo hi : Option Int) : List D := (xs.drop (HT.sIx xs.length 0 lo)).take (HT.sIx xs.length xs.length hi - HT.sIx xs.length 0 lo)
def slf (lo hi : Option Int) : D → Option Slot
  | .lst xs => some (.own (.lst (cutD xs lo hi)))
  | .tup xs => some (.val (.tup (cutD xs lo hi)))
  | _ => none
/-- a slice's bounds, where they stand -/
def bounds (lo hi : Bool) (r : List D) : Option (Option Int × Option Int) := match lo, hi, r with
  | false, false, [] => some (none, none)
  | true, false, [.int i] => some (some i, none)
  | false, true, [.int j] => some (none, some j)
  | true, true, [.int i, .int j] => some (some i, some j)
  | _, _, _ => none
def intsD : List D → Option (List Int)
  | [] => some []
  | .int i :: r => (intsD r).map (i :: ·)
  | _ => none
def blsD : List D → Option (List Bool)
  | [] => some []
  | .bl b :: r => (blsD r).map (b :: ·)
  | _ => none
def itemsD : D → Option (List D)
  | .lst xs => some xs
  | .rol xs => some xs
  | .tup xs => some xs
  | _ => none
def maxI : List Int → Int
  | [] => 0
  | x :: r => r.foldl (fun a b => if b > a then b else a) x
def minI : List Int → Int
  | [] => 0
  | x :: r => r.foldl (fun a b => if b < a then b else a) x
/-- a value's kind -/
def kindD : D → Option String
  | .non => some "NoneType"
  | .bl _ => some "bool"
  | .int _ => some "int"
  | .str _ => some "str"
  | .tup _ => some "tuple"
  | .lst _ => some "list"
  | _ => none
def isiD (n : String) (d : D) : Option Bool := (kindD d).bind fun t => L2.kitB t n
def lenD : D → Option Nat
  | .lst xs => some xs.length
  | .rol xs => some xs.length
  | .tup xs => some xs.length
  | .str z => if z.length ≤ Line then some z.length else none
  | .dic kvs => some kvs.length
  | _ => none
def reprOk (d : D) : Bool := d.okd && d.py.showable && decide (d.py.shown.length ≤ Line)
def sortI (l : List Int) : List Int := l.mergeSort fun a b => decide (a ≤ b)
def b1 (o : Option Bool) : Option Slot := o.map fun b => .val (.bl b)
def i1 (o : Option Int) : Option Slot := o.map fun b => .val (.int b)
def opf : Op → List D → Option Slot
  | .bin o, [a, b] => binf o a b
  | .neg, [.int i] => some (.val (.int (-i)))
  | .cmp o, [a, b] => b1 (cmpf o a b)
  | .ix, [a, b] => (ixf a b).map .val
  | .sl lo hi, a :: r => (bounds lo hi r).bind fun p => slf p.1 p.2 a
  | .len, [a] => (lenD a).map fun (n : Nat) => .val (.int n)
  | .isi n, [a] => b1 (isiD n a)
  | .int, [.int i] => some (.val (.int i))
  | .int, [.bl b] => some (.val (.int (if b then 1 else 0)))
  | .abs, [.int i] => some (.val (.int (if i < 0 then -i else i)))
  | .all, [.lst xs] => b1 ((blsD xs).map fun bs => bs.all id)
  | .any, [.lst xs] => b1 ((blsD xs).map fun bs => bs.any id)
  | .sum, [.lst xs] => i1 ((intsD xs).map List.sum)
  | .sum, [.tup xs] => i1 ((intsD xs).map List.sum)
  | .max, [.lst xs] => i1 ((intsD xs).bind fun ns => if ns.isEmpty then none else some (maxI ns))
  | .min, [.lst xs] => i1 ((intsD xs).bind fun ns => if ns.isEmpty then none else some (minI ns))
  | .max, [.tup xs] => i1 ((intsD xs).bind fun ns => if ns.isEmpty then none else some (maxI ns))
  | .min, [.tup xs] => i1 ((intsD xs).bind fun ns => if ns.isEmpty then none else some (minI ns))
  | .max, [.int i, .int j] => some (.val (.int (if j > i then j else i)))
  | .min, [.int i, .int j] => some (.val (.int (if j < i then j else i)))
  | .tuple, [.lst xs] => some (.val (.tup xs))
  | .tuple, [.tup xs] => some (.val (.tup xs))
  | .list, [d] => (itemsD d).map fun xs => .own (.lst xs)
  | .tru, [a] => b1 (truth a)
  | .ck, [.int i] => some (.val (.int i))
  | .inK kvs neg, [.str z] => some (.val (.bl (if neg then !(kvs.lookup z).isSome else (kvs.lookup z).isSome)))
  | .ixK kvs, [.str z] => (kvs.lookup z).map fun i => .val (.int i)
  | .rev, [.lst xs] => some (.own (.lst xs.reverse))
  | .rev, [.tup xs] => some (.val (.tup xs.reverse))
  | .sort, [.lst xs] => (intsD xs).map fun l => .own (.lst ((sortI l).map .int))
  | .sort, [.dic kvs] => (intKs kvs).bind fun l => if l.length < 64 then some (.own (.lst ((sortI l).map .int))) else none
  | .dict, [.lst xs] => (pairsKD xs).map fun kvs => .own (.dic (mergeKD [] kvs))
  | .get1, [.dic kvs, k] => (keyD k).map fun k => .val ((valKD kvs k).getD .non)
  | .get2, [.dic kvs, k, x] => (keyD k).map fun k => .val ((valKD kvs k).getD x)
  | .repr, [a] => if reprOk a then some (.val (.str a.py.shown)) else none
  | _, _ => none
def mkf : Mk → List D → Option Slot
  | .tup, ds => if ds.length ≤ Line then some (.val (.tup ds)) else none
  | .lst, ds => if ds.length ≤ Line then some (.own (.lst ds)) else none
  | .dic, [] => some (.own (.dic []))
  | .dic, _ => none
/-- (what it answers, the new content) -/
def muf : Mu → D → List D → Option (D × D)
  | .append, .lst xs, [y] => if xs.length < Line then some (.non, .lst (xs ++ [y])) else none
  | .extend, .lst xs, [.lst ys] => if xs.length + ys.length ≤ Line then some (.non, .lst (xs ++ ys)) else none
  | .pop, .lst xs, [] => match xs.getLast? with
    | some y => some (y, .lst xs.dropLast)
    | none => none
  | _, _, _ => none
def setf : D → D → D → Option D
  | .lst xs, .int k, v => (L2.ixN xs.length k).map fun j => .lst (xs.set j v)
  | .dic kvs, k, v => (keyD k).bind fun k => if kvs.length < Line then some (.dic (putKD kvs k v)) else none
  | _, _, _ => none
def rngf (i j : Int) : Option (List D) :=
  if i.natAbs < 2 ^ 62 ∧ j.natAbs < 2 ^ 62 then some ((List.range (j - i).toNat).map fun k => D.int (i + (k : Nat))) else none
def rng3f (i j c : Int) : Option (List D) :=
  if (i.natAbs < 2 ^ 62 ∧ j.natAbs < 2 ^ 62) ∧ c ≠ 0 ∧ c.natAbs < 1073741824 ∧ Builtin.Range.small i j c = true then some ((List.range (Builtin.Range.rangeSize i j c).toNat).map fun k => D.int (i + (k : Nat) * c)) else none
def signsD (z : Str) : List D := z.cps.toList.map fun c => D.str ⟨#[c]⟩
/-- what a for walks -/
def srcf : Sk → List D → Option (List D)
  | .it, [.lst xs] => some xs
  | .it, [.tup xs] => some xs
  | .it, [.rol xs] => some xs
  | .it, [.str z] => some (signsD z)
  | .rng, [.int j] => rngf 0 j
  | .rng, [.int i, .int j] => rngf i j
  | .rng, [.int i, .int j, .int c] => rng3f i j c
  | .enum, [.lst xs] => some ((List.range xs.length).zipWith (fun (i : Nat) x => D.tup [.int i, x]) xs)
  | .zip, [.tup xs, .tup ys] => some (xs.zipWith (fun x y => D.tup [x, y]) ys)
  | .zip, [.lst xs, .lst ys] => some (xs.zipWith (fun x y => D.tup [x, y]) ys)
  | .zip, [.lst xs, .tup ys] => some (xs.zipWith (fun x y => D.tup [x, y]) ys)
  | .zip, [.tup xs, .lst ys] => some (xs.zipWith (fun x y => D.tup [x, y]) ys)
  | _, _ => none

/-! ## the reading of codes -/
inductive Arg where
  | dat (d : D) | ref (i : Nat)
def getv (ρ : Sts) (i : Nat) : R Sts (Slot × Sts) := match ρ[i]? with
  | some (.val d) => .ok (.val d, ρ)
  | some (.own d) => .ok (.val d, ρ.set i (.val d))
  | _ => .bad
def Arg.get (ρ : Sts) : Arg → Option D
  | .dat d => some d
  | .ref i => (ρ[i]?).bind Slot.mu?
def gets (ρ : Sts) : List Arg → Option (List D)
  | [] => some []
  | a :: r => match a.get ρ, gets ρ r with
    | some d, some ds => some (d :: ds)
    | _, _ => none
/-- forget the ownership -/
def rel (r : R Sts (Slot × Sts)) : R Sts (D × Sts) := r.map fun p => (p.1.d, p.2)
def opR (o : Op) (p : List Arg × Sts) : R Sts (Slot × Sts) := match gets p.2 p.1 with
  | some ds => (R.ofO (opf o ds)).map fun s => (s, p.2)
  | none => .bad
def isOwn (ρ : Sts) (i : Nat) : Bool := ((ρ[i]?).bind Slot.mu?).isSome
def D.isLst : D → Bool
  | .lst _ => true
  | _ => false
def isLst (ρ : Sts) (i : Nat) : Bool := match (ρ[i]?).bind Slot.mu? with
  | some d => d.isLst
  | none => false
/-- a new content of the name i -/
def putE (ρ : Sts) (i : Nat) (d : D) : Sts := ρ.set i ((ρ.getD i .emp).put d)
mutual
def assignT : T → Slot → Sts → Option Sts
  | .name i o, s, ρ => if i < ρ.length then some (ρ.set i (if o then s else .val s.d)) else none
  | .tup ts, s, ρ => match s.d with
    | .tup xs => if xs.length = ts.length then assignTs ts xs ρ else none
    | .lst xs => if xs.length = ts.length then assignTs ts xs ρ else none
    | _ => none
def assignTs : List T → List D → Sts → Option Sts
  | [], [], ρ => some ρ
  | t :: ts, x :: xs, ρ => (assignT t (.val x) ρ).bind fun ρ1 => assignTs ts xs ρ1
  | _, _, _ => none
end
def assignPs : List (Nat × Bool) → List Slot → Sts → Option Sts
  | [], [], ρ => some ρ
  | (i, o) :: ts, s :: ss, ρ => (assignT (.name i o) s ρ).bind fun ρ1 => assignPs ts ss ρ1
  | _, _, _ => none
def wipeE (ρ : Sts) : List Nat → Sts
  | [] => ρ
  | v :: vs => (wipeE ρ vs).set v .emp
/-- the slots vs as they are in ρ0 -/
def backE (ρ0 ρ : Sts) : List Nat → Sts
  | [] => ρ
  | v :: vs => (backE ρ0 ρ vs).set v (ρ0.getD v .emp)
def ownAny (ρ : Sts) (vs : List Nat) : Bool := vs.any (isOwn ρ)
/-- a comprehension's turns -/
def lcLoop (vs : List Nat) (t : T) (tst : Sts → R Sts (Bool × Sts)) (elt : Sts → R Sts (D × Sts)) : List D → List D → Sts → R Sts (List D × Sts)
  | [], acc, ρ => .ok (acc, ρ)
  | x :: xs, acc, ρ => (R.ofO (assignT t (.val x) ρ)).bind fun ρ1 => (tst ρ1).bind fun p =>
      if p.1 then (elt p.2).bind fun q => if acc.length < Line then lcLoop vs t tst elt xs (acc ++ [q.1]) (wipeE q.2 vs) else .bad
      else lcLoop vs t tst elt xs acc (wipeE p.2 vs)
/-- no exception may leave a comprehension -/
def noExc {α : Type} : R Sts α → R Sts α
  | .exc _ _ _ => .bad
  | r => r

/-- what stands behind a call -/
abbrev Fn := List D → R (List D) (Slot × List D)
def setIos : List Arg → List D → Sts → Option Sts
  | [], [], ρ => some ρ
  | .ref i :: as, c :: cs, ρ => setIos as cs (putE ρ i c)
  | .dat _ :: as, cs, ρ => setIos as cs ρ
  | _, _, _ => none
def refs : List Arg → List Nat
  | [] => []
  | .ref i :: r => i :: refs r
  | .dat _ :: r => refs r
def callR (Φ : Nat → Fn) (f : Nat) (p : List Arg × Sts) : R Sts (Slot × Sts) := match gets p.2 p.1 with
  | some ds => if (refs p.1).Nodup then (match Φ f ds with
      | .ok (s, cs) => (R.ofO (setIos p.1 cs p.2)).map fun ρ => (s, ρ)
      | .exc c x cs => (R.ofO (setIos p.1 cs p.2)).bind fun ρ => .exc c x ρ
      | .bad => .bad) else .bad
  | none => .bad
def muR (m : Mu) (i : Nat) (p : List D × Sts) : R Sts (Slot × Sts) := match (p.2[i]?).bind Slot.mu? with
  | some d => match muf m d p.1 with
    | some (r, d') => .ok (.val r, putE p.2 i d')
    | none => .bad
  | none => .bad
def tru (r : R Sts (D × Sts)) : R Sts (Bool × Sts) := r.bind fun p => match truth p.1 with
  | some b => .ok (b, p.2)
  | none => .bad
def bw (a : E) (ρ : Sts) (r : R Sts (D × Sts)) : R Sts (Arg × Sts) := match a with
  | .var i => if isOwn ρ i then .ok (.ref i, ρ) else r.map fun p => (.dat p.1, p.2)
  | _ => r.map fun p => (.dat p.1, p.2)
def cw (m : Bool) (a : E) (ρ : Sts) (r : R Sts (D × Sts)) : R Sts (Arg × Sts) := if m then (match a with
    | .var i => if isOwn ρ i then .ok (.ref i, ρ) else .bad
    | _ => .bad) else r.map fun p => (.dat p.1, p.2)
mutual
def ev (Φ : Nat → Fn) : E → Sts → R Sts (Slot × Sts)
  | .lit d, ρ => .ok (.val d, ρ)
  | .var i, ρ => getv ρ i
  | .op o es, ρ => (evBs Φ es ρ).bind (opR o)
  | .mk o es, ρ => (evVs Φ es ρ).bind fun p => (R.ofO (mkf o p.1)).map fun s => (s, p.2)
  | .and a b, ρ => (rel (ev Φ a ρ)).bind fun p => match truth p.1 with
    | some true => (rel (ev Φ b p.2)).map fun q => (.val q.1, q.2)
    | some false => .ok (.val p.1, p.2)
    | none => .bad
  | .or a b, ρ => (rel (ev Φ a ρ)).bind fun p => match truth p.1 with
    | some true => .ok (.val p.1, p.2)
    | some false => (rel (ev Φ b p.2)).map fun q => (.val q.1, q.2)
    | none => .bad
  | .ife t a b, ρ => (tru (rel (ev Φ t ρ))).bind fun p => if p.1 then (rel (ev Φ a p.2)).map fun q => (.val q.1, q.2) else (rel (ev Φ b p.2)).map fun q => (.val q.1, q.2)
  | .chain a o b o2 c, ρ => (rel (ev Φ a ρ)).bind fun p => (rel (ev Φ b p.2)).bind fun q => match cmpf o p.1 q.1 with
    | some true => (rel (ev Φ c q.2)).bind fun r => (R.ofO (cmpf o2 q.1 r.1)).map fun x => (.val (.bl x), r.2)
    | some false => .ok (.val (.bl false), q.2)
    | none => .bad
  | .chain3 a o b o2 c o3 d, ρ => (rel (ev Φ a ρ)).bind fun p => (rel (ev Φ b p.2)).bind fun q => match cmpf o p.1 q.1 with
    | some true => (rel (ev Φ c q.2)).bind fun r => (match cmpf o2 q.1 r.1 with
      | some true => (rel (ev Φ d r.2)).bind fun u => (R.ofO (cmpf o3 r.1 u.1)).map fun x => (.val (.bl x), u.2)
      | some false => .ok (.val (.bl false), r.2)
      | none => .bad)
    | some false => .ok (.val (.bl false), q.2)
    | none => .bad
  | .call f m es, ρ => (evCs Φ m es ρ).bind (callR Φ f)
  | .callv i fs es, ρ => match ρ[i]? with
    | some (.val (.fn x)) => (match fs.lookup x with
      | some (f, n) => if es.length = n then (evCs Φ [] es ρ).bind (callR Φ f) else .bad
      | none => .bad)
    | _ => .bad
  | .mu m i es, ρ => if isLst ρ i then (evVs Φ es ρ).bind (muR m i) else .bad
  | .lc vs t k src ifs elt, ρ => (evVs Φ src ρ).bind fun p => match srcf k p.1 with
    | some items => if ownAny p.2 vs then .bad else
        (noExc (lcLoop vs t (fun ρ => evTs Φ ifs ρ) (fun ρ => rel (ev Φ elt ρ)) items [] (wipeE p.2 vs))).map fun q => (.own (.lst q.1), backE p.2 q.2 vs)
    | none => .bad
def evPs (Φ : Nat → Fn) : List E → Sts → R Sts (List Slot × Sts)
  | [], ρ => .ok ([], ρ)
  | e :: es, ρ => (ev Φ e ρ).bind fun p => (evPs Φ es p.2).map fun q => (p.1 :: q.1, q.2)
def evVs (Φ : Nat → Fn) : List E → Sts → R Sts (List D × Sts)
  | [], ρ => .ok ([], ρ)
  | e :: es, ρ => (rel (ev Φ e ρ)).bind fun p => (evVs Φ es p.2).map fun q => (p.1 :: q.1, q.2)
def evBs (Φ : Nat → Fn) : List E → Sts → R Sts (List Arg × Sts)
  | [], ρ => .ok ([], ρ)
  | e :: es, ρ => (bw e ρ (rel (ev Φ e ρ))).bind fun p => (evBs Φ es p.2).map fun q => (p.1 :: q.1, q.2)
def evCs (Φ : Nat → Fn) : List Bool → List E → Sts → R Sts (List Arg × Sts)
  | _, [], ρ => .ok ([], ρ)
  | m, e :: es, ρ => (cw (m.headD false) e ρ (rel (ev Φ e ρ))).bind fun p => (evCs Φ m.tail es p.2).map fun q => (p.1 :: q.1, q.2)
def evTs (Φ : Nat → Fn) : List E → Sts → R Sts (Bool × Sts)
  | [], ρ => .ok (true, ρ)
  | e :: es, ρ => (tru (rel (ev Φ e ρ))).bind fun p => if p.1 then evTs Φ es p.2 else .ok (false, p.2)
end

inductive Out where
  | nx (ρ : Sts) | rt (s : Slot) (ρ : Sts) | bk (ρ : Sts) | ct (ρ : Sts)
def forR (step : D → Sts → R Sts Out) : List D → Sts → R Sts Out
  | [], ρ => .ok (.nx ρ)
  | x :: xs, ρ => match step x ρ with
    | .ok (.nx ρ1) => forR step xs ρ1
    | .ok (.ct ρ1) => forR step xs ρ1
    | .ok (.bk ρ1) => .ok (.nx ρ1)
    | .ok (.rt s ρ1) => .ok (.rt s ρ1)
    | .exc c x e => .exc c x e
    | .bad => .bad
def whlR (tst : Sts → R Sts (Bool × Sts)) (body : Sts → R Sts Out) : Nat → Sts → R Sts Out
  | 0, _ => .bad
  | n + 1, ρ => (tst ρ).bind fun p => if p.1 then (match body p.2 with
      | .ok (.nx ρ1) => whlR tst body n ρ1
      | .ok (.ct ρ1) => whlR tst body n ρ1
      | .ok (.bk ρ1) => .ok (.nx ρ1)
      | .ok (.rt s ρ1) => .ok (.rt s ρ1)
      | .exc c x e => .exc c x e
      | .bad => .bad) else .ok (.nx p.2)
/-- more turns than any loop here takes -/
def fuel : Nat := 4611686018427387904
def thenR (r : R Sts Out) (f : Sts → R Sts Out) : R Sts Out := match r with
  | .ok (.nx ρ) => f ρ
  | r => r
def wordR (hs : List (Str × Wd)) (i : Nat) (r : R Sts Out) : R Sts Out := match r with
  | .exc c x ρ => (match wordD hs c x with
    | some w => if i < ρ.length then .ok (.rt (.val w) ρ) else .bad
    | none => .bad)
  | r => r
mutual
def evS (Φ : Nat → Fn) : S → Sts → R Sts Out
  | .asg t e, ρ => (ev Φ e ρ).bind fun p => (R.ofO (assignT t p.1 p.2)).map .nx
  | .par ts es, ρ => (evPs Φ es ρ).bind fun p => (R.ofO (assignPs ts p.1 p.2)).map .nx
  | .seti i k v, ρ => (rel (ev Φ v ρ)).bind fun x => if isOwn x.2 i then (rel (ev Φ k x.2)).bind fun y => match (y.2[i]?).bind Slot.mu? with
    | some d => (R.ofO (setf d y.1 x.1)).map fun d' => .nx (putE y.2 i d')
    | none => .bad
    else .bad
  | .aug i o e, ρ => match ρ[i]? with
    | some (.val d) => (rel (ev Φ e ρ)).bind fun x => (R.ofO (augf o d x.1)).map fun d' => .nx (x.2.set i (.val d'))
    | _ => .bad
  | .ret e, ρ => (ev Φ e ρ).map fun p => .rt p.1 p.2
  | .retn, ρ => .ok (.rt (.val .non) ρ)
  | .reto i, ρ => match ρ[i]? with
    | some (.own d) => .ok (.rt (.own d) (ρ.set i .emp))
    | some (.val d) => .ok (.rt (.val d) ρ)
    | _ => .bad
  | .exp e, ρ => (ev Φ e ρ).map fun p => .nx p.2
  | .pass, ρ => .ok (.nx ρ)
  | .brk, ρ => .ok (.bk ρ)
  | .cnt, ρ => .ok (.ct ρ)
  | .ite t a b, ρ => (tru (rel (ev Φ t ρ))).bind fun p => if p.1 then evSs Φ a p.2 else evSs Φ b p.2
  | .whl t b, ρ => whlR (fun ρ => tru (rel (ev Φ t ρ))) (fun ρ => evSs Φ b ρ) fuel ρ
  | .for t k src b, ρ => (evVs Φ src ρ).bind fun p => match srcf k p.1 with
    | some items => forR (fun x ρ => (R.ofO (assignT t (.val x) ρ)).bind fun ρ1 => evSs Φ b ρ1) items p.2
    | none => .bad
  | .raise c e, ρ => (rel (ev Φ e ρ)).bind fun p => if okX p.1 then .exc c p.1 p.2 else .bad
  | .tryn b, ρ => noExc (evSs Φ b ρ)
  | .tryw b hs i, ρ => wordR hs i (evSs Φ b ρ)
def evSs (Φ : Nat → Fn) : List S → Sts → R Sts Out
  | [], ρ => .ok (.nx ρ)
  | s :: r, ρ => thenR (evS Φ s ρ) fun ρ1 => evSs Φ r ρ1
end
/-- a def's entry: the parameters (own where the mask says so), the other names empty -/
def entry : List Bool → List D → List Slot
  | _, [] => []
  | m, d :: ds => (if m.headD false then Slot.io d else Slot.val d) :: entry m.tail ds
def outIos : List Bool → Sts → Option (List D)
  | [], _ => some []
  | false :: m, _ :: ρ => outIos m ρ
  | true :: m, .io d :: ρ => (outIos m ρ).map (d :: ·)
  | _, _ => none
/-- a def: its mask, its names' number, its body -/
structure Def where
  m : List Bool
  n : Nat
  ro : Bool
  body : List S
def outR (ro : Bool) (m : List Bool) (s : Slot) (ρ : Sts) : R (List D) (Slot × List D) :=
  (R.ofO (outIos m ρ)).map fun cs => ((if ro then s else .val s.d), cs)
def runD (Φ : Nat → Fn) (d : Def) (ds : List D) : R (List D) (Slot × List D) :=
  if ds.length = d.m.length then
    match evSs Φ d.body (entry d.m ds ++ List.replicate (d.n - d.m.length) .emp) with
    | .ok (.nx ρ) => outR d.ro d.m (.val .non) ρ
    | .ok (.rt s ρ) => outR d.ro d.m s ρ
    | .ok _ => .bad
    | .exc c x ρ => (R.ofO (outIos d.m ρ)).bind fun cs => .exc c x cs
    | .bad => .bad
  else .bad
end DL
namespace DL
open PySem L2

/-- the written part; where a def stands; a class of errors: where, and its field -/
structure Gx where
  K : PySem.W.Frag
  fa : Str → Option Addr
  ca : Str → Option (Addr × Str)

mutual
/-- the value v is the datum d -/
inductive Rep (G : Gx) (H : Hp) : V → D → Prop
  | non : Rep G H .non .non
  | bl (b : Bool) : Rep G H (.bl b) (.bl b)
  | int (i : Int) : Rep G H (.int i) (.int i)
  | str (s : Str) : Rep G H (.str s) (.str s)
  | lst {a : Addr} {xs : List V} {ds : List D} : H a = some (.lst xs) → Reps G H xs ds → Rep G H (.ref a) (.lst ds)
  | tup {a : Addr} {xs : List V} {ds : List D} : SqT G.K H a xs → Reps G H xs ds → Rep G H (.ref a) (.tup ds)
  | rol {a : Addr} {xs : List V} {ds : List D} : SqL G.K H a xs → Reps G H xs ds → Rep G H (.ref a) (.rol ds)
  | fn {a : Addr} {x : Str} : G.fa x = some a → Rep G H (.ref a) (.fn x)
  | ty (n : String) : Rep G H (.ty n) (.ty n)
  | dic {a : Addr} {ks : List (L2.Key × V)} {kvs : List (Ky × D)} : H a = some (.dK ks) → KReps G H ks kvs → Rep G H (.ref a) (.dic kvs)
inductive Reps (G : Gx) (H : Hp) : List V → List D → Prop
  | nil : Reps G H [] []
  | cons {v : V} {vs : List V} {d : D} {ds : List D} : Rep G H v d → Reps G H vs ds → Reps G H (v :: vs) (d :: ds)
inductive KReps (G : Gx) (H : Hp) : List (L2.Key × V) → List (Ky × D) → Prop
  | nil : KReps G H [] []
  | cons {k : L2.Key} {v : V} {vs : List (L2.Key × V)} {d : D} {ds : List (Ky × D)} : Rep G H v d → KReps G H vs ds → KReps G H ((k, v) :: vs) ((k, d) :: ds)
end
variable {G : Gx} {H H' : Hp} {O O' : List Addr}

theorem SqL.mono {K : PySem.W.Frag} {a : Addr} {xs : List V} (k : ∀ b o, H b = some o → H' b = some o) (h : L2.SqL K H a xs) : L2.SqL K H' a xs := by
  rcases h with h | h
  · rcases h with h | ⟨o, h⟩
    · exact .inl (.inl (k _ _ h))
    · exact .inl (.inr ⟨o, k _ _ h⟩)
  · exact .inr h
theorem SqT.mono {K : PySem.W.Frag} {a : Addr} {xs : List V} (k : ∀ b o, H b = some o → H' b = some o) (h : L2.SqT K H a xs) : L2.SqT K H' a xs := by
  rcases h with h | h
  · rcases h with h | ⟨o, h⟩
    · exact .inl (.inl (k _ _ h))
    · exact .inl (.inr ⟨o, k _ _ h⟩)
  · exact .inr h
mutual
theorem Rep.mono (k : ∀ b o, H b = some o → H' b = some o) : ∀ {v : V} {d : D}, Rep G H v d → Rep G H' v d
  | _, _, .non => .non
  | _, _, .bl b => .bl b
  | _, _, .int i => .int i
  | _, _, .str s => .str s
  | _, _, .lst h r => .lst (k _ _ h) (Reps.mono k r)
  | _, _, .tup h r => .tup (SqT.mono k h) (Reps.mono k r)
  | _, _, .rol h r => .rol (SqL.mono k h) (Reps.mono k r)
  | _, _, .fn h => .fn h
  | _, _, .ty n => .ty n
  | _, _, .dic h r => .dic (k _ _ h) (KReps.mono k r)
theorem Reps.mono (k : ∀ b o, H b = some o → H' b = some o) : ∀ {vs : List V} {ds : List D}, Reps G H vs ds → Reps G H' vs ds
  | _, _, .nil => .nil
  | _, _, .cons h r => .cons (Rep.mono k h) (Reps.mono k r)
theorem KReps.mono (k : ∀ b o, H b = some o → H' b = some o) : ∀ {vs : List (L2.Key × V)} {ds : List (Ky × D)}, KReps G H vs ds → KReps G H' vs ds
  | _, _, .nil => .nil
  | _, _, .cons h r => .cons (Rep.mono k h) (KReps.mono k r)
end
theorem KReps.length : ∀ {vs : List (L2.Key × V)} {ds : List (Ky × D)}, KReps G H vs ds → vs.length = ds.length
  | _, _, .nil => rfl
  | _, _, .cons _ r => by simp [KReps.length r]
theorem KReps.keys : ∀ {vs : List (L2.Key × V)} {ds : List (Ky × D)}, KReps G H vs ds → vs.map (·.1) = ds.map (·.1)
  | _, _, .nil => rfl
  | _, _, .cons _ r => by simp [KReps.keys r]
theorem KReps.val {vs : List (L2.Key × V)} {ds : List (Ky × D)} (r : KReps G H vs ds) (k : Ky) : (∃ v d, L2.valV vs k = some v ∧ valKD ds k = some d ∧ Rep G H v d) ∨ (L2.valV vs k = none ∧ valKD ds k = none) := by
  induction vs generalizing ds with
  | nil => cases r; exact .inr ⟨rfl, rfl⟩
  | cons p vs ih =>
    cases r with
    | cons h r =>
      rename_i k' v d ds'
      by_cases e : k' = k
      · refine .inl ⟨v, d, L2.valV_pos e, ?_, h⟩
        unfold valKD; simp [e]
      · rw [L2.valV_neg (p := (k', v)) (r := vs) e]
        have q : valKD ((k', d) :: ds') k = valKD ds' k := by unfold valKD; simp [e]
        rw [q]
        exact ih r
theorem KReps.any {vs : List (L2.Key × V)} {ds : List (Ky × D)} (r : KReps G H vs ds) (k : Ky) : (vs.any fun kv => decide (kv.1 = k)) = ds.any fun kv => decide (kv.1 = k) := by
  have e := congrArg (fun l => l.any fun x => decide (x = k)) r.keys
  simpa [List.any_map, Function.comp_def] using e
theorem KReps.put {vs : List (L2.Key × V)} {ds : List (Ky × D)} (r : KReps G H vs ds) (k : Ky) {v : V} {d : D} (h : Rep G H v d) : KReps G H (L2.putK vs k v) (putKD ds k d) := by
  unfold L2.putK putKD
  rw [r.any k]
  split
  · rename_i z; clear z
    induction vs generalizing ds with
    | nil => cases r; exact .nil
    | cons p vs ih =>
      cases r with
      | cons h' r =>
        rename_i k' v' d' ds'
        rw [List.map_cons, List.map_cons]
        by_cases e : k' = k
        · simp only [e, if_true]; exact .cons h (ih r)
        · simp only [e, if_false]; exact .cons h' (ih r)
  · rename_i z; clear z
    induction vs generalizing ds with
    | nil => cases r; exact .cons h .nil
    | cons p vs ih =>
      cases r with
      | cons h' r => exact .cons h' (ih r)
theorem KReps.merge {vs ws : List (L2.Key × V)} {ds es : List (Ky × D)} (r : KReps G H vs ds) (q : KReps G H ws es) : KReps G H (L2.mergeK vs ws) (mergeKD ds es) := by
  induction ws generalizing es vs ds with
  | nil => cases q; exact r
  | cons p ws ih =>
    cases q with
    | cons h q => exact ih (vs := L2.putK vs _ _) (ds := putKD ds _ _) (r.put _ h) q
theorem Reps.length : ∀ {vs : List V} {ds : List D}, Reps G H vs ds → vs.length = ds.length
  | _, _, .nil => rfl
  | _, _, .cons _ r => by simp [Reps.length r]
theorem Reps.append : ∀ {vs ws : List V} {ds es : List D}, Reps G H vs ds → Reps G H ws es → Reps G H (vs ++ ws) (ds ++ es)
  | _, _, _, _, .nil, s => s
  | _, _, _, _, .cons h r, s => .cons h (Reps.append r s)
theorem Reps.take : ∀ {vs : List V} {ds : List D} (n : Nat), Reps G H vs ds → Reps G H (vs.take n) (ds.take n)
  | _, _, 0, _ => .nil
  | _, _, _ + 1, .nil => .nil
  | _, _, n + 1, .cons h r => .cons h (Reps.take n r)
theorem Reps.drop : ∀ {vs : List V} {ds : List D} (n : Nat), Reps G H vs ds → Reps G H (vs.drop n) (ds.drop n)
  | _, _, 0, r => r
  | _, _, _ + 1, .nil => .nil
  | _, _, n + 1, .cons _ r => Reps.drop n r
theorem Reps.set : ∀ {vs : List V} {ds : List D} {v : V} {d : D} (n : Nat), Rep G H v d → Reps G H vs ds → Reps G H (vs.set n v) (ds.set n d)
  | _, _, _, _, _, _, .nil => .nil
  | _, _, _, _, 0, h, .cons _ r => .cons h r
  | _, _, _, _, n + 1, h, .cons q r => .cons q (Reps.set n h r)
theorem Reps.get : ∀ {vs : List V} {ds : List D} {i : Nat} {d : D}, Reps G H vs ds → ds[i]? = some d → ∃ v, vs[i]? = some v ∧ Rep G H v d
  | _, _, _, _, .nil, e => by simp at e
  | _, _, 0, _, .cons h _, e => by simp at e; subst e; exact ⟨_, rfl, h⟩
  | _, _, i + 1, d, .cons _ r, e => by
    obtain ⟨v, h1, h2⟩ := Reps.get (i := i) (d := d) r (by simpa using e)
    exact ⟨v, by simpa using h1, h2⟩
theorem Reps.getV : ∀ {vs : List V} {ds : List D} {i : Nat} {v : V}, Reps G H vs ds → vs[i]? = some v → ∃ d, ds[i]? = some d ∧ Rep G H v d
  | _, _, _, _, .nil, e => by simp at e
  | _, _, 0, _, .cons h _, e => by simp at e; subst e; exact ⟨_, rfl, h⟩
  | _, _, i + 1, v, .cons _ r, e => by
    obtain ⟨d, h1, h2⟩ := Reps.getV (i := i) (v := v) r (by simpa using e)
    exact ⟨d, by simpa using h1, h2⟩
theorem Reps.dropLast {vs : List V} {ds : List D} (r : Reps G H vs ds) : Reps G H vs.dropLast ds.dropLast := by
  rw [List.dropLast_eq_take, List.dropLast_eq_take, r.length]
  exact r.take _
theorem Reps.rep {vs : List V} {ds : List D} (r : Reps G H vs ds) : ∀ k : Nat, Reps G H (List.replicate k vs).flatten (List.replicate k ds).flatten
  | 0 => .nil
  | k + 1 => by simpa [List.replicate_succ] using r.append (Reps.rep r k)

/-- the heap without the owned -/
def cut (H : Hp) (O : List Addr) : Hp := fun b => if b ∈ O then none else H b
theorem cut_some {b : Addr} {o : HO} : cut H O b = some o ↔ b ∉ O ∧ H b = some o := by
  unfold cut
  by_cases h : b ∈ O
  · simp [h]
  · simp [h]
theorem cut_le {b : Addr} {o : HO} (h : cut H O b = some o) : H b = some o := (cut_some.mp h).2
theorem Rep.full {v : V} {d : D} (r : Rep G (cut H O) v d) : Rep G H v d := r.mono fun _ _ h => cut_le h
def Ext (O : List Addr) (H : Hp) (O' : List Addr) (H' : Hp) : Prop := ∀ b o, b ∉ O → H b = some o → b ∉ O' ∧ H' b = some o
theorem Ext.refl : Ext O H O H := fun _ _ h1 h2 => ⟨h1, h2⟩
theorem Ext.trans {O1 O2 O3 : List Addr} {H1 H2 H3 : Hp} (a : Ext O1 H1 O2 H2) (b : Ext O2 H2 O3 H3) : Ext O1 H1 O3 H3 := fun c o h1 h2 =>
  let ⟨h3, h4⟩ := a c o h1 h2
  b c o h3 h4
theorem Ext.cuts (e : Ext O H O' H') : ∀ b o, cut H O b = some o → cut H' O' b = some o := fun b o h =>
  let ⟨h1, h2⟩ := cut_some.mp h
  cut_some.mpr (e b o h1 h2)
theorem Ext.rep (e : Ext O H O' H') {v : V} {d : D} (r : Rep G (cut H O) v d) : Rep G (cut H' O') v d := r.mono e.cuts
theorem Ext.reps (e : Ext O H O' H') {v : List V} {d : List D} (r : Reps G (cut H O) v d) : Reps G (cut H' O') v d := r.mono e.cuts
theorem Ext.same (s : Same H H') : Ext O H O H' := fun b o h1 h2 => ⟨h1, s b o h2⟩

/-- a changeable object at a -/
def OwnAt (G : Gx) (H : Hp) (O : List Addr) (a : Addr) : D → Prop
  | .lst ds => ∃ xs, H a = some (.lst xs) ∧ Reps G (cut H O) xs ds
  | .dic kvs => ∃ ks, H a = some (.dK ks) ∧ KReps G (cut H O) ks kvs
  | _ => False
theorem OwnAt.there {a : Addr} {d : D} (h : OwnAt G H O a d) : ∃ o, H a = some o ∧ Mut (some o) := by
  cases d with
  | lst ds => obtain ⟨xs, h, _⟩ := h; exact ⟨_, h, trivial⟩
  | dic ds => obtain ⟨xs, h, _⟩ := h; exact ⟨_, h, trivial⟩
  | _ => exact h.elim
theorem OwnAt.mono {a : Addr} {d : D} (h : OwnAt G H O a d) (ha : ∀ o, H a = some o → H' a = some o) (k : ∀ b o, cut H O b = some o → cut H' O' b = some o) : OwnAt G H' O' a d := by
  cases d with
  | lst ds => obtain ⟨xs, h, r⟩ := h; exact ⟨xs, ha _ h, r.mono k⟩
  | dic ds => obtain ⟨xs, h, r⟩ := h; exact ⟨xs, ha _ h, r.mono k⟩
  | _ => exact h.elim
/-- let it be known -/
theorem OwnAt.rep {a : Addr} {d : D} (h : OwnAt G H O a d) (k : ∀ b o, cut H O b = some o → H' b = some o) (ha : ∀ o, H a = some o → H' a = some o) : Rep G H' (.ref a) d := by
  cases d with
  | lst ds => obtain ⟨xs, h, r⟩ := h; exact .lst (ha _ h) (r.mono k)
  | dic ds => obtain ⟨xs, h, r⟩ := h; exact .dic (ha _ h) (r.mono k)
  | _ => exact h.elim

/-- what is fixed for a def's run: the text, the heap at its entry, what the caller lent, what the callers own -/
structure Pm where
  G : Gx
  H0 : Hp
  io : List (Nat × Addr)
  ex : List Addr
def Pm.ad (P : Pm) : List Addr := P.io.map (·.2)
structure Rel (P : Pm) (O : List Addr) (ρ : Sts) (σ : St) (H : Hp) : Prop where
  len : σ.length = ρ.length
  val : ∀ (i : Nat) (d : D), ρ[i]? = some (.val d) → ∃ v, σ[i]? = some (some v) ∧ Rep P.G (cut H O) v d
  own : ∀ (i : Nat) (d : D), ρ[i]? = some (.own d) → ∃ a, σ[i]? = some (some (.ref a)) ∧ a ∈ O ∧ a ∉ P.ex ∧ OwnAt P.G H O a d
  io : ∀ (i : Nat) (d : D), ρ[i]? = some (.io d) → ∃ a, σ[i]? = some (some (.ref a)) ∧ (i, a) ∈ P.io ∧ OwnAt P.G H O a d
  dis : ∀ (i j : Nat) (a : Addr) (s t : D), ρ[i]? = some (.own s) → ρ[j]? = some (.own t) → σ[i]? = some (some (V.ref a)) → σ[j]? = some (some (V.ref a)) → i = j
  iod : ∀ p ∈ P.io, ∀ q ∈ P.io, p.2 = q.2 → p = q
  fr : ∀ b o, b ∉ P.ad → P.H0 b = some o → H b = some o
  ofr : ∀ a ∈ O, a ∈ P.ex ∨ P.H0 a = none
  odom : ∀ a ∈ O, ∃ o, H a = some o ∧ Mut (some o)
  exs : ∀ a ∈ P.ex, a ∈ O
  sub : ∀ a ∈ P.ad, a ∈ P.ex
variable {P : Pm} {ρ : Sts} {σ : St}

/-- where nothing tracked is changed -/
theorem Rel.same (R : Rel P O ρ σ H) (s : Same H H') : Rel P O ρ σ H' := by
  have k : ∀ b o, cut H O b = some o → cut H' O b = some o := (Ext.same s).cuts
  refine ⟨R.len, fun i d e => ?_, fun i d e => ?_, fun i d e => ?_, R.dis, R.iod, fun b o h1 h2 => s _ _ (R.fr b o h1 h2), R.ofr, fun a h => ?_, R.exs, R.sub⟩
  · obtain ⟨v, h1, h2⟩ := R.val i d e
    exact ⟨v, h1, h2.mono k⟩
  · obtain ⟨a, h1, h2, h3, h4⟩ := R.own i d e
    exact ⟨a, h1, h2, h3, h4.mono (fun o => s a o) k⟩
  · obtain ⟨a, h1, h2, h3⟩ := R.io i d e
    exact ⟨a, h1, h2, h3.mono (fun o => s a o) k⟩
  · obtain ⟨o, h1, h2⟩ := R.odom a h
    exact ⟨o, s _ _ h1, h2⟩
theorem same_upd {p : Addr} {o : HO} (h : H p = none) : Same H (upd H p o) := fun b x e => by
  rw [upd_ne (ne_of_none e h)]; exact e
theorem Rel.ios (R : Rel P O ρ σ H) : ∀ a ∈ P.ad, a ∈ O := fun a h => R.exs a (R.sub a h)
theorem Rel.fresh (R : Rel P O ρ σ H) {p : Addr} (h : H p = none) : p ∉ O ∧ p ∉ P.ex ∧ P.H0 p = none := by
  have h1 : p ∉ O := fun m => by
    obtain ⟨o, e, _⟩ := R.odom p m
    rw [h] at e; cases e
  have h2 : p ∉ P.ex := fun m => h1 (R.exs p m)
  refine ⟨h1, h2, ?_⟩
  cases e : P.H0 p with
  | none => rfl
  | some o => have q := R.fr p o (fun m => h2 (R.sub p m)) e; rw [h] at q; cases q
theorem cut_new {p : Addr} {o : HO} (h : H p = none) : ∀ b x, cut H O b = some x → cut (upd H p o) (p :: O) b = some x := fun b x e => by
  obtain ⟨h1, h2⟩ := cut_some.mp e
  have hb : b ≠ p := ne_of_none h2 h
  exact cut_some.mpr ⟨by simp [hb, h1], by rw [upd_ne hb]; exact h2⟩
theorem ext_new {p : Addr} {o : HO} (h : H p = none) : Ext O H (p :: O) (upd H p o) := fun b x h1 h2 => by
  have hb : b ≠ p := ne_of_none h2 h
  exact ⟨by simp [hb, h1], by rw [upd_ne hb]; exact h2⟩
/-- a new object that is owned -/
theorem Rel.new (R : Rel P O ρ σ H) {p : Addr} {o : HO} (h : H p = none) (m : Mut (some o)) : Rel P (p :: O) ρ σ (upd H p o) := by
  obtain ⟨f1, f2, f3⟩ := R.fresh h
  have k := cut_new (O := O) (o := o) h
  have s : Same H (upd H p o) := same_upd h
  refine ⟨R.len, fun i d e => ?_, fun i d e => ?_, fun i d e => ?_, R.dis, R.iod, fun b x h1 h2 => s _ _ (R.fr b x h1 h2), fun a h => ?_, fun a h => ?_, fun a h => List.mem_cons_of_mem _ (R.exs a h), R.sub⟩
  · obtain ⟨v, h1, h2⟩ := R.val i d e
    exact ⟨v, h1, h2.mono k⟩
  · obtain ⟨a, h1, h2, h3, h4⟩ := R.own i d e
    exact ⟨a, h1, List.mem_cons_of_mem _ h2, h3, h4.mono (fun o => s a o) k⟩
  · obtain ⟨a, h1, h2, h3⟩ := R.io i d e
    exact ⟨a, h1, h2, h3.mono (fun o => s a o) k⟩
  · rcases List.mem_cons.mp h with rfl | h
    · exact .inr f3
    · exact R.ofr a h
  · rcases List.mem_cons.mp h with rfl | h
    · exact ⟨o, upd_same, m⟩
    · obtain ⟨o', h1, h2⟩ := R.odom a h
      exact ⟨o', s _ _ h1, h2⟩
/-- no own name holds it -/
def Apart (ρ : Sts) (σ : St) (a : Addr) : Prop := ∀ (i : Nat) (d : D), ρ[i]? = some (.own d) → σ[i]? ≠ some (some (V.ref a))
theorem ext_drop (a : Addr) : Ext O H (O.filter (· ≠ a)) H := fun b o h1 h2 => ⟨fun m => h1 (List.mem_filter.mp m).1, h2⟩
/-- an owned object is let known -/
theorem Rel.release (R : Rel P O ρ σ H) {a : Addr} (ha : a ∉ P.ex) (ap : Apart ρ σ a) : Rel P (O.filter (· ≠ a)) ρ σ H := by
  have k := (ext_drop (O := O) (H := H) a).cuts
  refine ⟨R.len, fun i d e => ?_, fun i d e => ?_, fun i d e => ?_, R.dis, R.iod, R.fr, fun b h => R.ofr b (List.mem_filter.mp h).1, fun b h => R.odom b (List.mem_filter.mp h).1, fun b h => ?_, R.sub⟩
  · obtain ⟨v, h1, h2⟩ := R.val i d e
    exact ⟨v, h1, h2.mono k⟩
  · obtain ⟨b, h1, h2, h3, h4⟩ := R.own i d e
    have hb : b ≠ a := fun z => ap i d e (z ▸ h1)
    exact ⟨b, h1, List.mem_filter.mpr ⟨h2, by simpa using hb⟩, h3, h4.mono (fun _ q => q) k⟩
  · obtain ⟨b, h1, h2, h3⟩ := R.io i d e
    exact ⟨b, h1, h2, h3.mono (fun _ q => q) k⟩
  · have hb : b ≠ a := fun z => ha (z ▸ h)
    exact List.mem_filter.mpr ⟨R.exs b h, by simpa using hb⟩

/-- the answer of an expression: a known value; an object of one's own -/
def RepR (P : Pm) (O : List Addr) (ρ : Sts) (σ : St) (H : Hp) (v : V) : Slot → Prop
  | .val d => Rep P.G (cut H O) v d
  | .own d => ∃ a, v = .ref a ∧ a ∈ O ∧ a ∉ P.ex ∧ Apart ρ σ a ∧ OwnAt P.G H O a d
  | _ => False
theorem RepR.rel (R : Rel P O ρ σ H) {v : V} {s : Slot} (h : RepR P O ρ σ H v s) : ∃ O', Rel P O' ρ σ H ∧ Ext O H O' H ∧ Rep P.G (cut H O') v s.d := by
  cases s with
  | val d => exact ⟨O, R, .refl, h⟩
  | own d =>
    obtain ⟨a, rfl, h1, h2, h3, h4⟩ := h
    refine ⟨_, R.release h2 h3, ext_drop a, h4.rep (ext_drop (O := O) (H := H) a).cuts fun o e => cut_some.mpr ⟨?_, e⟩⟩
    simp
  | emp => exact h.elim
  | io d => exact h.elim
/-- an own name is let known -/
theorem Rel.free (R : Rel P O ρ σ H) {i : Nat} {d : D} (hi : ρ[i]? = some (.own d)) : ∃ O' v, Rel P O' (ρ.set i (.val d)) σ H ∧ Ext O H O' H ∧ σ[i]? = some (some v) ∧ Rep P.G (cut H O') v d := by
  obtain ⟨a, h1, h2, h3, h4⟩ := R.own i d hi
  have hl : i < ρ.length := (List.getElem?_eq_some_iff.mp hi).1
  have R1 : Rel P O (ρ.set i .emp) σ H := by
    refine ⟨by simpa using R.len, fun j e q => ?_, fun j e q => ?_, fun j e q => ?_, fun j l b s t q1 q2 => ?_, R.iod, R.fr, R.ofr, R.odom, R.exs, R.sub⟩
    · by_cases hj : i = j
      · subst hj; rw [List.getElem?_set_self hl] at q; cases q
      · rw [List.getElem?_set_ne hj] at q; exact R.val j e q
    · by_cases hj : i = j
      · subst hj; rw [List.getElem?_set_self hl] at q; cases q
      · rw [List.getElem?_set_ne hj] at q; exact R.own j e q
    · by_cases hj : i = j
      · subst hj; rw [List.getElem?_set_self hl] at q; cases q
      · rw [List.getElem?_set_ne hj] at q; exact R.io j e q
    · have z1 : i ≠ j := fun hj => by subst hj; rw [List.getElem?_set_self hl] at q1; cases q1
      have z2 : i ≠ l := fun hj => by subst hj; rw [List.getElem?_set_self hl] at q2; cases q2
      rw [List.getElem?_set_ne z1] at q1
      rw [List.getElem?_set_ne z2] at q2
      exact R.dis j l b s t q1 q2
  have ap : Apart (ρ.set i .emp) σ a := fun j e q z => by
    have z1 : i ≠ j := fun hj => by subst hj; rw [List.getElem?_set_self hl] at q; cases q
    rw [List.getElem?_set_ne z1] at q
    exact z1 (R.dis i j a d e hi q h1 z)
  have R2 := R1.release h3 ap
  have rp : Rep P.G (cut H (O.filter (· ≠ a))) (.ref a) d := h4.rep (ext_drop (O := O) (H := H) a).cuts fun o e => cut_some.mpr ⟨by simp, e⟩
  refine ⟨_, .ref a, ?_, ext_drop a, h1, rp⟩
  refine ⟨by simpa using R.len, fun j e q => ?_, fun j e q => ?_, fun j e q => ?_, fun j l b s t q1 q2 => ?_, R2.iod, R2.fr, R2.ofr, R2.odom, R2.exs, R2.sub⟩
  · by_cases hj : i = j
    · subst hj; rw [List.getElem?_set_self hl] at q; cases q; exact ⟨_, h1, rp⟩
    · rw [List.getElem?_set_ne hj] at q; exact R2.val j e (by rw [List.getElem?_set_ne hj]; exact q)
  · by_cases hj : i = j
    · subst hj; rw [List.getElem?_set_self hl] at q; cases q
    · rw [List.getElem?_set_ne hj] at q; exact R2.own j e (by rw [List.getElem?_set_ne hj]; exact q)
  · by_cases hj : i = j
    · subst hj; rw [List.getElem?_set_self hl] at q; cases q
    · rw [List.getElem?_set_ne hj] at q; exact R2.io j e (by rw [List.getElem?_set_ne hj]; exact q)
  · have z1 : i ≠ j := fun hj => by subst hj; rw [List.getElem?_set_self hl] at q1; cases q1
    have z2 : i ≠ l := fun hj => by subst hj; rw [List.getElem?_set_self hl] at q2; cases q2
    rw [List.getElem?_set_ne z1] at q1
    rw [List.getElem?_set_ne z2] at q2
    exact R.dis j l b s t q1 q2

/-- a name is stored: a known value -/
theorem Rel.setV (R : Rel P O ρ σ H) {i : Nat} {v : V} {d : D} (hi : i < ρ.length) (r : Rep P.G (cut H O) v d) : Rel P O (ρ.set i (.val d)) (σ.set i (some v)) H := by
  have hs : i < σ.length := by rw [R.len]; exact hi
  refine ⟨by simpa using R.len, fun j e q => ?_, fun j e q => ?_, fun j e q => ?_, fun j l b s t q1 q2 q3 q4 => ?_, R.iod, R.fr, R.ofr, R.odom, R.exs, R.sub⟩
  · by_cases hj : i = j
    · subst hj; rw [List.getElem?_set_self hi] at q; cases q; exact ⟨v, List.getElem?_set_self hs, r⟩
    · rw [List.getElem?_set_ne hj] at q ⊢; exact R.val j e q
  · by_cases hj : i = j
    · subst hj; rw [List.getElem?_set_self hi] at q; cases q
    · rw [List.getElem?_set_ne hj] at q ⊢; exact R.own j e q
  · by_cases hj : i = j
    · subst hj; rw [List.getElem?_set_self hi] at q; cases q
    · rw [List.getElem?_set_ne hj] at q ⊢; exact R.io j e q
  · have z1 : i ≠ j := fun hj => by subst hj; rw [List.getElem?_set_self hi] at q1; cases q1
    have z2 : i ≠ l := fun hj => by subst hj; rw [List.getElem?_set_self hi] at q2; cases q2
    rw [List.getElem?_set_ne z1] at q1 q3
    rw [List.getElem?_set_ne z2] at q2 q4
    exact R.dis j l b s t q1 q2 q3 q4
/-- a name is stored: an object of one's own -/
theorem Rel.setO (R : Rel P O ρ σ H) {i : Nat} {a : Addr} {d : D} (hi : i < ρ.length) (h1 : a ∈ O) (h2 : a ∉ P.ex) (ap : Apart ρ σ a) (r : OwnAt P.G H O a d) : Rel P O (ρ.set i (.own d)) (σ.set i (some (.ref a))) H := by
  have hs : i < σ.length := by rw [R.len]; exact hi
  refine ⟨by simpa using R.len, fun j e q => ?_, fun j e q => ?_, fun j e q => ?_, fun j l b s t q1 q2 q3 q4 => ?_, R.iod, R.fr, R.ofr, R.odom, R.exs, R.sub⟩
  · by_cases hj : i = j
    · subst hj; rw [List.getElem?_set_self hi] at q; cases q
    · rw [List.getElem?_set_ne hj] at q ⊢; exact R.val j e q
  · by_cases hj : i = j
    · subst hj; rw [List.getElem?_set_self hi] at q; cases q; exact ⟨a, List.getElem?_set_self hs, h1, h2, r⟩
    · rw [List.getElem?_set_ne hj] at q ⊢; exact R.own j e q
  · by_cases hj : i = j
    · subst hj; rw [List.getElem?_set_self hi] at q; cases q
    · rw [List.getElem?_set_ne hj] at q ⊢; exact R.io j e q
  · by_cases z1 : i = j
    · subst z1
      rw [List.getElem?_set_self hs] at q3; cases q3
      by_cases z2 : i = l
      · exact z2
      · rw [List.getElem?_set_ne z2] at q2 q4
        exact (ap l t q2 q4).elim
    · rw [List.getElem?_set_ne z1] at q1 q3
      by_cases z2 : i = l
      · subst z2
        rw [List.getElem?_set_self hs] at q4; cases q4
        exact (ap j s q1 q3).elim
      · rw [List.getElem?_set_ne z2] at q2 q4
        exact R.dis j l b s t q1 q2 q3 q4
theorem cut_in {a : Addr} {o : HO} (h : a ∈ O) : cut (upd H a o) O = cut H O := by
  funext b
  unfold cut
  by_cases hb : b ∈ O
  · simp [hb]
  · have : b ≠ a := fun z => hb (z ▸ h)
    simp [hb, upd_ne this]
/-- the object of a changeable name -/
theorem Rel.mu (R : Rel P O ρ σ H) {i : Nat} {d : D} (hi : (ρ[i]?).bind Slot.mu? = some d) : ∃ a, σ[i]? = some (some (.ref a)) ∧ a ∈ O ∧ OwnAt P.G H O a d ∧ (a ∈ P.ad ∨ a ∉ P.ex) := by
  cases e : ρ[i]? with
  | none => rw [e] at hi; cases hi
  | some s =>
    rw [e] at hi
    cases s with
    | own d' => cases hi; obtain ⟨a, h1, h2, h3, h4⟩ := R.own i _ e; exact ⟨a, h1, h2, h4, .inr h3⟩
    | io d' => cases hi; obtain ⟨a, h1, h2, h4⟩ := R.io i _ e; exact ⟨a, h1, R.ios a (List.mem_map.mpr ⟨_, h2, rfl⟩), h4, .inl (List.mem_map.mpr ⟨_, h2, rfl⟩)⟩
    | emp => cases hi
    | val _ => cases hi
/-- two changeable names, two objects -/
theorem Rel.muNe (R : Rel P O ρ σ H) {i j : Nat} {a : Addr} (hi : ((ρ[i]?).bind Slot.mu?).isSome = true) (hj : ((ρ[j]?).bind Slot.mu?).isSome = true) (h1 : σ[i]? = some (some (V.ref a))) (h2 : σ[j]? = some (some (V.ref a))) : i = j := by
  cases e : ρ[i]? with
  | none => rw [e] at hi; cases hi
  | some s =>
    cases f : ρ[j]? with
    | none => rw [f] at hj; cases hj
    | some t =>
      rw [e] at hi; rw [f] at hj
      cases s with
      | emp => cases hi
      | val _ => cases hi
      | own d =>
        cases t with
        | emp => cases hj
        | val _ => cases hj
        | own d' => exact R.dis i j a d d' e f h1 h2
        | io d' =>
          obtain ⟨b, g1, _, g3, _⟩ := R.own i d e
          obtain ⟨c, k1, k2, _⟩ := R.io j d' f
          rw [h1] at g1; rw [h2] at k1; cases g1; cases k1
          exact (g3 (R.sub _ (List.mem_map.mpr ⟨_, k2, rfl⟩))).elim
      | io d =>
        cases t with
        | emp => cases hj
        | val _ => cases hj
        | own d' =>
          obtain ⟨b, g1, _, g3, _⟩ := R.own j d' f
          obtain ⟨c, k1, k2, _⟩ := R.io i d e
          rw [h2] at g1; rw [h1] at k1; cases g1; cases k1
          exact (g3 (R.sub _ (List.mem_map.mpr ⟨_, k2, rfl⟩))).elim
        | io d' =>
          obtain ⟨b, g1, g2, _⟩ := R.io i d e
          obtain ⟨c, k1, k2, _⟩ := R.io j d' f
          rw [h1] at g1; rw [h2] at k1; cases g1; cases k1
          exact congrArg Prod.fst (R.iod _ g2 _ k2 rfl)
/-- it is changed -/
theorem Rel.change (R : Rel P O ρ σ H) {i : Nat} {d d' : D} {a : Addr} {o : HO} (hi : (ρ[i]?).bind Slot.mu? = some d) (ha : σ[i]? = some (some (.ref a))) (m : Mut (some o)) (r : OwnAt P.G (upd H a o) O a d') : Rel P O (putE ρ i d') σ (upd H a o) := by
  obtain ⟨a', h1, h2, h3, h4⟩ := R.mu hi
  rw [ha] at h1; cases h1
  have hl : i < ρ.length := by
    cases e : ρ[i]? with
    | none => rw [e] at hi; cases hi
    | some s => exact (List.getElem?_eq_some_iff.mp e).1
  obtain ⟨s, hs⟩ : ∃ s, ρ[i]? = some s := ⟨_, List.getElem?_eq_getElem hl⟩
  have hg : ρ.getD i .emp = s := by rw [List.getD_eq_getElem?_getD, hs]; rfl
  have ck := cut_in (H := H) (O := O) (o := o) h2
  have ot : ∀ b, b ≠ a → ∀ e, OwnAt P.G H O b e → OwnAt P.G (upd H a o) O b e := fun b hb e q => q.mono (fun x z => by rw [upd_ne hb]; exact z) (fun b x z => by rw [ck]; exact z)
  have isM : ((ρ[i]?).bind Slot.mu?).isSome = true := by rw [hi]; rfl
  have keepO : ∀ (j : Nat) (e : Slot), i ≠ j → (putE ρ i d')[j]? = some e → ρ[j]? = some e := fun j e hj q => by unfold putE at q; rw [List.getElem?_set_ne hj] at q; exact q
  have atI' : (putE ρ i d')[i]? = some (s.put d') := by unfold putE; rw [List.getElem?_set_self hl, hg]
  refine ⟨by unfold putE; simpa using R.len, fun j e q => ?_, fun j e q => ?_, fun j e q => ?_, fun j l b u t q1 q2 q3 q4 => ?_, R.iod, fun b x z1 z2 => ?_, R.ofr, fun b z => ?_, R.exs, R.sub⟩
  · by_cases hj : i = j
    · subst hj
      rw [atI'] at q
      rw [hs] at hi
      cases s with
      | emp => cases hi
      | val _ => cases hi
      | own _ => cases q
      | io _ => cases q
    · obtain ⟨v, g1, g2⟩ := R.val j e (keepO j _ hj q)
      exact ⟨v, g1, by rw [ck]; exact g2⟩
  · by_cases hj : i = j
    · subst hj
      rw [atI'] at q
      cases s with
      | emp => cases q
      | val _ => cases q
      | io _ => cases q
      | own f =>
        cases q
        obtain ⟨b, g1, g2, g3, _⟩ := R.own i f hs
        rw [ha] at g1; cases g1
        exact ⟨_, ha, g2, g3, r⟩
    · obtain ⟨b, g1, g2, g3, g4⟩ := R.own j e (keepO j _ hj q)
      have hb : b ≠ a := fun z => hj (R.muNe isM (by rw [keepO j _ hj q]; rfl) ha (z ▸ g1))
      exact ⟨b, g1, g2, g3, ot b hb _ g4⟩
  · by_cases hj : i = j
    · subst hj
      rw [atI'] at q
      cases s with
      | emp => cases q
      | val _ => cases q
      | own _ => cases q
      | io f =>
        cases q
        obtain ⟨b, g1, g2, _⟩ := R.io i f hs
        rw [ha] at g1; cases g1
        exact ⟨_, ha, g2, r⟩
    · obtain ⟨b, g1, g2, g4⟩ := R.io j e (keepO j _ hj q)
      have hb : b ≠ a := fun z => hj (R.muNe isM (by rw [keepO j _ hj q]; rfl) ha (z ▸ g1))
      exact ⟨b, g1, g2, ot b hb _ g4⟩
  · have own_of : ∀ (j : Nat) (u : D), (putE ρ i d')[j]? = some (.own u) → ∃ u', ρ[j]? = some (.own u') := fun j u q => by
      by_cases hj : i = j
      · subst hj
        rw [atI'] at q
        cases s with
        | emp => cases q
        | val _ => cases q
        | io _ => cases q
        | own f => exact ⟨f, hs⟩
      · exact ⟨u, keepO j _ hj q⟩
    obtain ⟨u', e1⟩ := own_of j u q1
    obtain ⟨t', e2⟩ := own_of l t q2
    exact R.dis j l b u' t' e1 e2 q3 q4
  · have hb : b ≠ a := fun z => by
      subst z
      rcases h4 with q | q
      · exact z1 q
      · rcases R.ofr _ h2 with q2 | q2
        · exact q q2
        · rw [q2] at z2; cases z2
    rw [upd_ne hb]
    exact R.fr b x z1 z2
  · by_cases hb : b = a
    · subst hb; exact ⟨o, upd_same, m⟩
    · obtain ⟨x, g1, g2⟩ := R.odom b z
      exact ⟨x, by rw [upd_ne hb]; exact g1, g2⟩
theorem ext_in {a : Addr} {o : HO} (h : a ∈ O) : Ext O H O (upd H a o) := fun b x h1 h2 => ⟨h1, by
  have hb : b ≠ a := fun z => h1 (by rw [z]; exact h)
  rw [upd_ne hb]; exact h2⟩
end DL
namespace DL
open PySem PySem.Spec PyProof.Rows L2

/-! ## defs that may look at what stands around (repr) -/
structure FnG (P : Program) (w : World) (K : PySem.W.Frag) (mg : Str → Option Value) (base : Heap) (k : Nat) (f : Addr) (n : Nat) (sp : Sp) : Prop where
  len : ∀ vs H Q E, sp vs H Q E → vs.length = n
  go : ∀ (A : Around) (outer : List PySem.Env) (s : Shared) (H : Hp) (us : List Value) (vs : List V) (Q : VK) (E : XK), A.guards = some [] → Room k A →
    Env0 P w K mg base A outer s H → Vals vs us → sp vs H Q E → codeAny (model P w) A (.call (.ref f) ⟨us, []⟩) (CR (L2.CX P w) outer P w H s Q E) s
theorem FnG.imp {P : Program} {w : World} {K : PySem.W.Frag} {mg : Str → Option Value} {base : Heap} {j k n : Nat} {f : Addr} {sp sp' : Sp} (F : FnG P w K mg base j f n sp) (hk : j ≤ k) (h : ∀ vs H Q E, sp' vs H Q E → sp vs H Q E) : FnG P w K mg base k f n sp' :=
  ⟨fun a b c d q => F.len a b c d (h a b c d q), fun A o s H us vs Q E g r e v q => F.go A o s H us vs Q E g (r.mono hk) e v (h _ _ _ _ q)⟩

/-- a def of the text keeps its promise, by its body -/
theorem fng_of {P : Program} {w : World} {K : PySem.W.Frag} {mg : Str → Option Value} {base : Heap} {x qual : Str} {st : Stmt} {f : Addr} {fd : FuncData} {N ps : List Str} {k : Nat} {sp : Sp}
    (F : Fun K x qual st f fd) (S : FnScope N ps (defScope st)) (hb : Binds K fd ps []) (len : ∀ vs H Q E, sp vs H Q E → vs.length = ps.length)
    (body : ∀ (cdv : Value) (A : Around) (outer : List PySem.Env) (s : Shared) (H : Hp) (vs : List V) (Q : VK) (E : XK), A.guards = some [] → Room k (A.deeper (envOfC qual (defScope st) s.heap.objs.size f cdv)) → sp vs H Q E →
      ∃ t, PSs (cxOf (L2.CX P w) P w K mg base N qual (defScope st) f cdv A outer s H E) (defBody st) t ∧ t { nx := fun _ H' => Q .non H', rt := Q } (start N vs) H) :
    FnG P w K mg base (k + 1) f ps.length sp := by
  obtain ⟨oc, od, kV, doc, pm, an, cdv, ct, osl, rfl, lk, hcd⟩ := F.ex
  refine ⟨len, fun A outer s H us vs Q E hg room e0 rv hsp => ?_⟩
  have hlen := len _ _ _ _ hsp
  have inS : K.In s.heap := e0.mod.kin.keeps fun b o e => (e0.bs b o e).1
  have noL : s.heap.NoLimit := e0.mod.nolimit.keeps fun b o e => (e0.bs b o e).1
  have bnd := hb s us inS (by rw [List.append_nil, ← rv.length]; exact hlen)
  rw [List.append_nil] at bnd
  have kinds : ∀ y ∈ ps.zip us, (defScope st).names.lookup y.1 = some .local ∨ ((defScope st).names.lookup y.1 = some .cell ∧ ((cellsFrom (s.heap.objs.size + 1) (defScope st).names []).lookup y.1).isSome = true) := by
    rintro ⟨nm, vv⟩ hy
    cases S.par nm (List.of_mem_zip hy).1 with
    | inl q => exact .inl q
    | inr q => exact .inr ⟨q, PySem.W.cellsFrom_some _ _ _ (.inl q)⟩
  refine codeAny_call_function room.depth (inS _ _ lk) rfl S.co S.gen rfl (PySem.W.codeRec_of inS hcd) (bnd _ _ _ _ ?_)
  refine wpAny_newFunctionEnv_cells S.kind kinds fun env ee s1 ic => ?_
  subst ee
  refine ⟨noL.keeps ic.toInCall.keep, codeAny_func ?_⟩
  obtain ⟨t, ht, hq⟩ := body cdv A outer s H vs Q E hg (room.deeper _) hsp
  have I := inv_start (CX := L2.CX P w) (E := E) S room.hd e0 hlen rv ic
  refine wpAny_mono (ht.run [] s1 (start N vs) H _ I hq) (fun fl s' hs => ?_) fun _ _ hs => hs
  have stop : ∀ {σ' : L2.St} {H' : Hp} {v : V} {u : Value}, Inv (cxOf (L2.CX P w) P w K mg base N qual (defScope st) f cdv A outer s H E) [] σ' H' s' → RelV v u → Q v H' → CE outer P w H s Q u s' :=
    fun {σ' H' v u} J rr q => ⟨v, H', J.os, J.bare, J.base, J.hok, rr, q⟩
  match fl, hs with
  | .ret _, ⟨_, _, _, J, rr, q⟩ => exact stop J rr q
  | .next, ⟨_, _, J, q⟩ => exact stop (v := V.non) (u := Value.none) J rfl q
  | .brk, ⟨_, _, _, q⟩ => exact q.elim
  | .cont, ⟨_, _, _, q⟩ => exact q.elim

/-! ## arguments without a star -/
def nst : Expr → Bool
  | .Starred .. => false
  | _ => true
theorem starEach_nst {e : Expr} (h : nst e = true) (es : List Expr) (env : PySem.Env) : starEach (e :: es) env = (false, eval e env) :: starEach es env := by
  cases e <;> first | rfl | cases h
theorem plain_nst {pos : Pos} {env : PySem.Env} : ∀ {es : List Expr}, es.all nst = true → (backTo pos (starEach es env)).any (·.1) = false
  | [], _ => rfl
  | e :: es, h => by
    simp only [List.all_cons, Bool.and_eq_true] at h
    rw [starEach_nst h.1]
    show (false || (backTo pos (starEach es env)).any (·.1)) = false
    rw [plain_nst h.2]; rfl
section
variable {X : Cx} {k n : Nat} {f : Addr} {sp : Sp} {W : WX} {x : Str} {p pos : Pos} {es : List Expr} {t : TA}
theorem pa_consN {e : Expr} {te : TE} (h : nst e = true) (ha : PE X e te) (hr : PA X es t) : PA X (e :: es) (tCons te t) := pa_cons ha hr (starEach_nst h _ _)
theorem run_g {pins : List (Addr × Obj)} {σ : L2.St} {H : Hp} {s : Shared} {Q : VK} {us : List Value} {vs : List V} (F : FnG X.prog X.w X.K X.mg X.base k f n sp) (hg : X.A.guards = some []) (hr : Room k X.A) (tk : Takes X W)
    (I : Inv X pins σ H s) (rv : Vals vs us) (h : sp vs H Q (WE W σ)) : wpAny (model X.prog X.w) X.A (call (.ref f) us) (EP X pins σ Q) X.xe s := by
  refine wpAny_call (codeAny_mono (F.go X.A X.stack s H us vs Q (WE W σ) hg hr I.env0 rv h) fun r s' hq => ?_)
  match r, hq with
  | .error e, hq => exact passAt tk σ pins H s e s' I hq
  | .ok (.ret u), hq => exact I.after hq
  | .ok .next, hq => exact hq.elim
  | .ok .brk, hq => exact hq.elim
  | .ok .cont, hq => exact hq.elim
def tCallG (sp : Sp) (W : WX) (t : TA) : TE := fun σ H Q => t σ H fun vs H1 => sp vs H1 Q (WE W σ)
theorem pe_callG {e : Expr} (F : FnG X.prog X.w X.K X.mg X.base k f n sp) (hgd : X.A.guards = some []) (hr : Room k X.A) (hg : Gl X x) (hm : X.mg x = some (.ref f)) (hk : PySem.W.keepIn X.K (.ref f) = true) (tk : Takes X W)
    (hn : nst e = true ∧ es.all nst = true) (ha : PA X (e :: es) t) (hd : (x == ("__debug__" : Str)) = false) : PE X (.Call (.Name x p) (e :: es) [] pos) (tCallG sp W t) := by
  refine ⟨fun pins s σ H Q I h => wpAny_Call_Name_kw (ld_glob I hg hm ?_ hd)⟩
  refine PySem.W.callWith_K (h₀ := X.base) I.ok.mod.kin hk (thn (ha.run pos pins s σ H _ I h) fun us s1 ⟨vs, H1, I1, rv, z⟩ => ⟨I1.kIn, ?_⟩) (starEach_nst hn.1 _ _) (plain_nst hn.2)
  exact run_g F hgd hr tk I1 rv z
theorem pe_callG0 (F : FnG X.prog X.w X.K X.mg X.base k f n sp) (hgd : X.A.guards = some []) (hr : Room k X.A) (hg : Gl X x) (hm : X.mg x = some (.ref f)) (hk : PySem.W.keepIn X.K (.ref f) = true) (tk : Takes X W)
    (hd : (x == ("__debug__" : Str)) = false) : PE X (.Call (.Name x p) [] [] pos) (tCallG sp W tNil) :=
  ⟨fun pins s σ H Q I h => wpAny_Call_Name_kw (ld_glob I hg hm (PySem.W.callWith_K0 I.kIn hk (run_g F hgd hr tk I .nil h)) hd)⟩
/-- the call of a local name that holds a def -/
def tCallLG (X : Cx) (W : WX) (i : Nat) (t : TA) : TE := fun σ H Q => ∃ (f : Addr) (k n : Nat) (sp : Sp), σ[i]? = some (some (.ref f)) ∧ PySem.W.keepIn X.K (.ref f) = true ∧ FnG X.prog X.w X.K X.mg X.base k f n sp ∧ Room k X.A ∧ t σ H fun vs H1 => sp vs H1 Q (WE W σ)
theorem pe_callLG {i : Nat} {e : Expr} (hgd : X.A.guards = some []) (tk : Takes X W) (hN : X.N[i]? = some x) (hv : Vis X.env.scope x) (hd : (x == ("__debug__" : Str)) = false) (hcd : (x == ("__classdict__" : Str)) = false)
    (hn : nst e = true ∧ es.all nst = true) (ha : PA X (e :: es) t) : PE X (.Call (.Name x p) (e :: es) [] pos) (tCallLG X W i t) := by
  refine ⟨fun pins s σ H Q I ⟨f, k, n, sp, hs, hk, F, hr, ht⟩ => ?_⟩
  refine wpAny_Call_Name_kw (thn ((pe_var (pos := p) hN hv hd hcd).run pins s σ H (fun v H1 => v = .ref f ∧ H1 = H) I ⟨.ref f, hs, rfl, rfl⟩) fun u s1 ⟨v, H1, I1, r1, q1⟩ => ?_)
  obtain ⟨rfl, rfl⟩ := q1
  cases r1
  refine PySem.W.callWith_K (h₀ := X.base) I.ok.mod.kin hk (thn (ha.run pos pins s1 σ _ _ I1 ht) fun us s2 ⟨vs, H2, I2, rv, z⟩ => ⟨I2.kIn, ?_⟩) (starEach_nst hn.1 _ _) (plain_nst hn.2)
  exact run_g F hgd hr tk I2 rv z
end
end DL
namespace DL
open PySem L2

theorem bind_okR {ε α β : Type} {r : R ε α} {f : α → R ε β} {b : β} (h : r.bind f = .ok b) : ∃ a, r = .ok a ∧ f a = .ok b := by
  cases r with
  | ok a => exact ⟨a, rfl, h⟩
  | exc _ _ _ => cases h
  | bad => cases h
/-! ## readings by data -/
/-- an error of the class c with its field x, in the air -/
def ExcAt (G : Gx) (O : List Addr) (H : Hp) (c : Str) (x : D) (cv : Value) (d : Option Addr) : Prop :=
  ∃ (C : Addr) (fl : Str) (dd : Addr) (v : V), G.ca c = some (C, fl) ∧ cv = .ref C ∧ d = some dd ∧ H dd = some (.xd [(fl, v)]) ∧ Rep G (cut H O) v x
section
variable (P : Pm) (W : WX)
def Aft {α : Type} (σ : St) (O : List Addr) (H : Hp) (r : R Sts (α × Sts)) (k : α → Sts → List Addr → Hp → Prop) : Prop := match r with
  | .ok p => ∀ O' H', Rel P O' p.2 σ H' → Ext O H O' H' → k p.1 p.2 O' H'
  | .exc c x ρ' => ∀ O' H' cv d, Rel P O' ρ' σ H' → Ext O H O' H' → ExcAt P.G O' H' c x cv d → W cv d σ H'
  | .bad => False
/-- an argument: a known value, or a changeable name that is lent -/
def ArgAt (σ : St) (O : List Addr) (H : Hp) (v : V) : Arg → Prop
  | .dat d => Rep P.G (cut H O) v d
  | .ref i => σ[i]? = some (some v)
inductive ArgsAt (σ : St) (O : List Addr) (H : Hp) : List V → List Arg → Prop
  | nil : ArgsAt σ O H [] []
  | cons {v : V} {vs : List V} {a : Arg} {as : List Arg} : ArgAt P σ O H v a → ArgsAt σ O H vs as → ArgsAt σ O H (v :: vs) (a :: as)
def tE (Φ : Nat → Fn) (e : E) : TE := fun σ H Q => ∃ O ρ, Rel P O ρ σ H ∧ Aft P W σ O H (ev Φ e ρ) fun s ρ' O' H' => ∀ v, RepR P O' ρ' σ H' v s → Q v H'
def tV (r : Sts → R Sts (D × Sts)) : TE := fun σ H Q => ∃ O ρ, Rel P O ρ σ H ∧ Aft P W σ O H (r ρ) fun d ρ' O' H' => ∀ v, Rep P.G (cut H' O') v d → Q v H'
def tB (r : Sts → R Sts (Bool × Sts)) : TT := fun σ H Q => ∃ O ρ, Rel P O ρ σ H ∧ Aft P W σ O H (r ρ) fun b ρ' O' H' => Q b H'
def tArg (r : Sts → R Sts (Arg × Sts)) : TE := fun σ H Q => ∃ O ρ, Rel P O ρ σ H ∧ Aft P W σ O H (r ρ) fun a ρ' O' H' => ∀ v, ArgAt P σ O' H' v a → Q v H'
def tArgs (r : Sts → R Sts (List Arg × Sts)) : TA := fun σ H Q => ∃ O ρ, Rel P O ρ σ H ∧ Aft P W σ O H (r ρ) fun as ρ' O' H' => ∀ vs, ArgsAt P σ O' H' vs as → Q vs H'
def tVs (r : Sts → R Sts (List D × Sts)) : TA := fun σ H Q => ∃ O ρ, Rel P O ρ σ H ∧ Aft P W σ O H (r ρ) fun ds ρ' O' H' => ∀ vs, Reps P.G (cut H' O') vs ds → Q vs H'
end
section
variable {P : Pm} {W : WX} {σ : St} {O O1 O' : List Addr} {H H1 H' : Hp} {α β : Type} {ρ : Sts} {Φ : Nat → Fn}
theorem Aft.mono {r : R Sts (α × Sts)} {k : α → Sts → List Addr → Hp → Prop} (h : Aft P W σ O H r k) (e : Ext O H O1 H1) : Aft P W σ O1 H1 r k := by
  cases r with
  | ok p => exact fun O' H' R x => h O' H' R (e.trans x)
  | exc c x ρ' => exact fun O' H' cv d R z => h O' H' cv d R (e.trans z)
  | bad => exact h
theorem Aft.imp {r : R Sts (α × Sts)} {k k' : α → Sts → List Addr → Hp → Prop} (h : Aft P W σ O H r k) (f : ∀ a ρ' O' H', Rel P O' ρ' σ H' → Ext O H O' H' → k a ρ' O' H' → k' a ρ' O' H') : Aft P W σ O H r k' := by
  cases r with
  | ok p => exact fun O' H' R x => f _ _ _ _ R x (h O' H' R x)
  | exc c x ρ' => exact h
  | bad => exact h
theorem Aft.bind {r : R Sts (α × Sts)} {f : α × Sts → R Sts (β × Sts)} {k : β → Sts → List Addr → Hp → Prop} (h : Aft P W σ O H (r.bind f) k) : Aft P W σ O H r fun a ρ1 O1 H1 => Aft P W σ O1 H1 (f (a, ρ1)) k := by
  cases r with
  | ok p => exact fun O' H' R x => Aft.mono h x
  | exc c x ρ' => exact h
  | bad => exact h
theorem Aft.map {r : R Sts (α × Sts)} {f : α × Sts → β × Sts} {k : β → Sts → List Addr → Hp → Prop} (hf : ∀ p, (f p).2 = p.2) (h : Aft P W σ O H (r.map f) k) : Aft P W σ O H r fun a ρ1 O1 H1 => k (f (a, ρ1)).1 ρ1 O1 H1 := by
  cases r with
  | ok p =>
    intro O' H' R x
    have q := h O' H' (by rw [hf]; exact R) x
    rw [hf] at q
    exact q
  | exc c x ρ' => exact h
  | bad => exact h
/-- at once -/
theorem Aft.now {a : α} {k : α → Sts → List Addr → Hp → Prop} (h : Aft P W σ O H (.ok (a, ρ)) k) (R : Rel P O ρ σ H) : k a ρ O H := h O H R .refl

theorem Aft.rel {r : R Sts (Slot × Sts)} {Q : VK} (h : Aft P W σ O H (rel r) fun d ρ' O' H' => ∀ v, Rep P.G (cut H' O') v d → Q v H') : Aft P W σ O H r fun s ρ' O' H' => ∀ v, RepR P O' ρ' σ H' v s → Q v H' := by
  cases r with
  | ok p =>
    intro O' H' R x v rv
    obtain ⟨O2, R2, e2, r2⟩ := rv.rel R
    exact h O2 H' R2 (x.trans e2) v r2
  | exc c x ρ' => exact h
  | bad => exact h
theorem _root_.L2.PE.weak {X : Cx} {c : Expr} {t t' : TE} (h : PE X c t) (k : ∀ σ H Q, t' σ H Q → t σ H Q) : PE X c t' := ⟨fun pins s σ H Q I z => h.run pins s σ H Q I (k σ H Q z)⟩
theorem _root_.L2.PT.weak {X : Cx} {c : Expr} {t t' : TT} (h : PT X c t) (k : ∀ σ H Q, t' σ H Q → t σ H Q) : PT X c t' := ⟨fun pins s σ H Q I z => h.run pins s σ H Q I (k σ H Q z)⟩
theorem _root_.L2.PA.weak {X : Cx} {c : List Expr} {t t' : TA} (h : PA X c t) (k : ∀ σ H Q, t' σ H Q → t σ H Q) : PA X c t' := ⟨fun pos pins s σ H Q I z => h.run pos pins s σ H Q I (k σ H Q z)⟩
theorem _root_.L2.PS.weak {X : Cx} {c : Stmt} {t t' : TS} (h : PS X c t) (k : ∀ D σ H, t' D σ H → t D σ H) : PS X c t' := ⟨fun pins s σ H D I z => h.run pins s σ H D I (k D σ H z)⟩
theorem _root_.L2.PSs.weak {X : Cx} {c : List Stmt} {t t' : TS} (h : PSs X c t) (k : ∀ D σ H, t' D σ H → t D σ H) : PSs X c t' := ⟨fun pins s σ H D I z => h.run pins s σ H D I (k D σ H z)⟩
theorem tV_of {X : Cx} {c : Expr} {e : E} (h : PE X c (tE P W Φ e)) : PE X c (tV P W fun ρ => DL.rel (ev Φ e ρ)) := h.weak fun σ H Q ⟨O, ρ, R, a⟩ => ⟨O, ρ, R, a.rel⟩

/-! ### operands -/
/-- a known value, or an object of one's own -/
def RepX (G : Gx) (O : List Addr) (H : Hp) (v : V) (d : D) : Prop := Rep G (cut H O) v d ∨ ∃ a, v = .ref a ∧ a ∈ O ∧ OwnAt G H O a d
inductive RepXs (G : Gx) (O : List Addr) (H : Hp) : List V → List D → Prop
  | nil : RepXs G O H [] []
  | cons {v : V} {vs : List V} {d : D} {ds : List D} : RepX G O H v d → RepXs G O H vs ds → RepXs G O H (v :: vs) (d :: ds)
/-- what an operator gives: a known value (all stays), a new object -/
def Res (G : Gx) (O : List Addr) (H : Hp) (v : V) (H' : Hp) : Slot → Prop
  | .val d => Same H H' ∧ Rep G (cut H' O) v d
  | .own d => ∃ p o, v = .ref p ∧ H p = none ∧ H' = upd H p o ∧ Mut (some o) ∧ OwnAt G H' (p :: O) p d
  | _ => False
theorem Res.post {v : V} {s : Slot} (R : Rel P O ρ σ H) (h : Res P.G O H v H' s) : ∃ O', Rel P O' ρ σ H' ∧ Ext O H O' H' ∧ RepR P O' ρ σ H' v s := by
  cases s with
  | val d => exact ⟨O, R.same h.1, .same h.1, h.2⟩
  | own d =>
    obtain ⟨p, o, rfl, hp, rfl, m, q⟩ := h
    obtain ⟨f1, f2, f3⟩ := R.fresh hp
    refine ⟨p :: O, R.new hp m, ext_new hp, p, rfl, List.mem_cons_self, f2, fun i d' e z => ?_, q⟩
    obtain ⟨a, h1, h2, _⟩ := R.own i d' e
    rw [z] at h1; cases h1
    exact f1 h2
  | emp => exact h.elim
  | io d => exact h.elim
/-- an operator by data -/
def rD (G : Gx) (g : List D → Option Slot) : List V → Hp → VK → Prop := fun vs H Q => ∃ O ds s, RepXs G O H vs ds ∧ (∀ a ∈ O, ∃ o, H a = some o ∧ Mut (some o)) ∧ g ds = some s ∧ ∀ v H', Res G O H v H' s → Q v H'
theorem args_get (R : Rel P O ρ σ H) : ∀ {as : List Arg} {vs : List V} {ds : List D}, ArgsAt P σ O H vs as → gets ρ as = some ds → RepXs P.G O H vs ds
  | [], _, _, .nil, h => by cases h; exact .nil
  | a :: as, _, ds, .cons h1 h2, h => by
    unfold gets at h
    split at h
    · rename_i d ds' e1 e2
      cases h
      refine .cons ?_ (args_get R h2 e2)
      cases a with
      | dat d' => cases e1; exact .inl h1
      | ref i =>
        obtain ⟨b, k1, k2, k3, _⟩ := R.mu (i := i) e1
        have h1' : σ[i]? = some (some _) := h1
        rw [k1] at h1'
        cases h1'
        exact .inr ⟨b, rfl, k2, k3⟩
    · cases h
theorem op_args {o : Op} {es : List E} {Q : VK} (h : tE P W Φ (.op o es) σ H Q) : tArgs P W (fun ρ => evBs Φ es ρ) σ H fun vs H1 => rD P.G (opf o) vs H1 Q := by
  obtain ⟨O, ρ, R, a⟩ := h
  refine ⟨O, ρ, R, ?_⟩
  have a2 : Aft P W σ O H ((evBs Φ es ρ).bind (opR o)) fun s ρ' O' H' => ∀ v, RepR P O' ρ' σ H' v s → Q v H' := a
  refine a2.bind.imp fun as ρ1 O1 H1 R1 _ q vs hv => ?_
  unfold opR at q
  split at q
  · rename_i ds hds
    cases hs : opf o ds with
    | none => rw [hs] at q; exact q.elim
    | some s =>
      rw [hs] at q
      refine ⟨O1, ds, s, args_get R1 hv hds, R1.odom, hs, fun v H' hr => ?_⟩
      obtain ⟨O2, R2, e2, r2⟩ := hr.post R1
      exact q O2 H' R2 e2 v r2
  · exact q.elim
theorem args_cons {e : E} {es : List E} {Q : List V → Hp → Prop} (h : tArgs P W (fun ρ => evBs Φ (e :: es) ρ) σ H Q) :
    tArg P W (fun ρ => bw e ρ (rel (ev Φ e ρ))) σ H fun x H1 => tArgs P W (fun ρ => evBs Φ es ρ) σ H1 fun xs H2 => Q (x :: xs) H2 := by
  obtain ⟨O, ρ, R, a⟩ := h
  refine ⟨O, ρ, R, ?_⟩
  have a2 : Aft P W σ O H ((bw e ρ (rel (ev Φ e ρ))).bind fun p => (evBs Φ es p.2).map fun q => (p.1 :: q.1, q.2)) fun as ρ' O' H' => ∀ vs, ArgsAt P σ O' H' vs as → Q vs H' := a
  refine a2.bind.imp fun x ρ1 O1 H1 R1 e1 q v hv => ⟨O1, ρ1, R1, ?_⟩
  refine (Aft.map (f := fun q : List Arg × Sts => (x :: q.1, q.2)) (fun _ => rfl) q).imp fun xs ρ2 O2 H2 R2 e2 q2 vs hvs => q2 _ (.cons ?_ hvs)
  cases x with
  | dat d => exact e2.rep hv
  | ref i => exact hv
theorem args_nil {Q : List V → Hp → Prop} (h : tArgs P W (fun ρ => evBs Φ [] ρ) σ H Q) : Q [] H := by
  obtain ⟨O, ρ, R, a⟩ := h
  exact Aft.now a R [] .nil
/-- calls' arguments -/
theorem cargs_cons {m : List Bool} {e : E} {es : List E} {Q : List V → Hp → Prop} (h : tArgs P W (fun ρ => evCs Φ m (e :: es) ρ) σ H Q) :
    tArg P W (fun ρ => cw (m.headD false) e ρ (rel (ev Φ e ρ))) σ H fun x H1 => tArgs P W (fun ρ => evCs Φ m.tail es ρ) σ H1 fun xs H2 => Q (x :: xs) H2 := by
  obtain ⟨O, ρ, R, a⟩ := h
  refine ⟨O, ρ, R, ?_⟩
  have a2 : Aft P W σ O H ((cw (m.headD false) e ρ (rel (ev Φ e ρ))).bind fun p => (evCs Φ m.tail es p.2).map fun q => (p.1 :: q.1, q.2)) fun as ρ' O' H' => ∀ vs, ArgsAt P σ O' H' vs as → Q vs H' := a
  refine a2.bind.imp fun x ρ1 O1 H1 R1 e1 q v hv => ⟨O1, ρ1, R1, ?_⟩
  refine (Aft.map (f := fun q : List Arg × Sts => (x :: q.1, q.2)) (fun _ => rfl) q).imp fun xs ρ2 O2 H2 R2 e2 q2 vs hvs => q2 _ (.cons ?_ hvs)
  cases x with
  | dat d => exact e2.rep hv
  | ref i => exact hv
theorem cargs_nil {m : List Bool} {Q : List V → Hp → Prop} (h : tArgs P W (fun ρ => evCs Φ m [] ρ) σ H Q) : Q [] H := by
  obtain ⟨O, ρ, R, a⟩ := h
  have a2 : Aft P W σ O H (.ok ([], ρ)) fun as ρ' O' H' => ∀ vs, ArgsAt P σ O' H' vs as → Q vs H' := by
    cases m <;> exact a
  exact Aft.now a2 R [] .nil
/-- known values -/
theorem vs_cons {e : E} {es : List E} {Q : List V → Hp → Prop} (h : tVs P W (fun ρ => evVs Φ (e :: es) ρ) σ H Q) :
    tV P W (fun ρ => rel (ev Φ e ρ)) σ H fun x H1 => tVs P W (fun ρ => evVs Φ es ρ) σ H1 fun xs H2 => Q (x :: xs) H2 := by
  obtain ⟨O, ρ, R, a⟩ := h
  refine ⟨O, ρ, R, ?_⟩
  have a2 : Aft P W σ O H ((rel (ev Φ e ρ)).bind fun p => (evVs Φ es p.2).map fun q => (p.1 :: q.1, q.2)) fun as ρ' O' H' => ∀ vs, Reps P.G (cut H' O') vs as → Q vs H' := a
  refine a2.bind.imp fun x ρ1 O1 H1 R1 e1 q v hv => ⟨O1, ρ1, R1, ?_⟩
  exact (Aft.map (f := fun q : List D × Sts => (x :: q.1, q.2)) (fun _ => rfl) q).imp fun xs ρ2 O2 H2 R2 e2 q2 vs hvs => q2 _ (.cons (e2.rep hv) hvs)
theorem vs_nil {Q : List V → Hp → Prop} (h : tVs P W (fun ρ => evVs Φ [] ρ) σ H Q) : Q [] H := by
  obtain ⟨O, ρ, R, a⟩ := h
  exact Aft.now a R [] .nil
end
end DL
namespace DL
open PySem L2
section
variable {G : Gx} {O : List Addr} {H H' : Hp} {v : V}
theorem RepXs.one {vs : List V} {d : D} (h : RepXs G O H vs [d]) : ∃ v, vs = [v] ∧ RepX G O H v d := by
  cases h with
  | cons h r => cases r; exact ⟨_, rfl, h⟩
theorem RepXs.two {x y : V} {ds : List D} (h : RepXs G O H [x, y] ds) : ∃ dx dy, ds = [dx, dy] ∧ RepX G O H x dx ∧ RepX G O H y dy := by
  cases h with
  | cons h r => cases r with
    | cons h2 r => cases r; exact ⟨_, _, rfl, h, h2⟩
theorem RepX.int {i : Int} (h : RepX G O H v (.int i)) : v = .int i := by
  rcases h with h | ⟨_, _, _, h⟩
  · cases h; rfl
  · exact h.elim
theorem RepX.str {i : Str} (h : RepX G O H v (.str i)) : v = .str i := by
  rcases h with h | ⟨_, _, _, h⟩
  · cases h; rfl
  · exact h.elim
theorem RepX.bl {i : Bool} (h : RepX G O H v (.bl i)) : v = .bl i := by
  rcases h with h | ⟨_, _, _, h⟩
  · cases h; rfl
  · exact h.elim
theorem RepX.non (h : RepX G O H v .non) : v = .non := by
  rcases h with h | ⟨_, _, _, h⟩
  · cases h; rfl
  · exact h.elim
theorem RepX.lst {ds : List D} (h : RepX G O H v (.lst ds)) : ∃ a xs, v = .ref a ∧ H a = some (.lst xs) ∧ Reps G (cut H O) xs ds := by
  rcases h with h | ⟨a, rfl, _, xs, h, r⟩
  · cases h with
    | lst h r => exact ⟨_, _, rfl, cut_le h, r⟩
  · exact ⟨a, xs, rfl, h, r⟩
theorem SqT.full {K : PySem.W.Frag} {a : Addr} {xs : List V} (h : L2.SqT K (cut H O) a xs) : L2.SqT K H a xs := SqT.mono (fun _ _ h => cut_le h) h
theorem SqL.full {K : PySem.W.Frag} {a : Addr} {xs : List V} (h : L2.SqL K (cut H O) a xs) : L2.SqL K H a xs := SqL.mono (fun _ _ h => cut_le h) h
theorem RepX.tup {ds : List D} (h : RepX G O H v (.tup ds)) : ∃ a xs, v = .ref a ∧ L2.SqT G.K H a xs ∧ Reps G (cut H O) xs ds := by
  rcases h with h | ⟨_, _, _, h⟩
  · cases h with
    | tup h r => exact ⟨_, _, rfl, SqT.full h, r⟩
  · exact h.elim
theorem RepX.tupR {ds : List D} (h : RepX G O H v (.tup ds)) : Rep G (cut H O) v (.tup ds) := by
  rcases h with h | ⟨_, _, _, h⟩
  · exact h
  · exact h.elim
theorem RepX.rol {ds : List D} (h : RepX G O H v (.rol ds)) : ∃ a xs, v = .ref a ∧ L2.SqL G.K H a xs ∧ Reps G (cut H O) xs ds := by
  rcases h with h | ⟨_, _, _, h⟩
  · cases h with
    | rol h r => exact ⟨_, _, rfl, SqL.full h, r⟩
  · exact h.elim
theorem KReps.full {ks : List (L2.Key × V)} {kvs : List (Ky × D)} (r : KReps G (cut H O) ks kvs) : KReps G H ks kvs := r.mono fun _ _ h => cut_le h
theorem RepX.dic {ds : List (Ky × D)} (h : RepX G O H v (.dic ds)) : ∃ a ks, v = .ref a ∧ H a = some (.dK ks) ∧ KReps G (cut H O) ks ds := by
  rcases h with h | ⟨a, rfl, _, xs, h, r⟩
  · cases h with
    | dic h r => exact ⟨_, _, rfl, cut_le h, r⟩
  · exact ⟨a, xs, rfl, h, r⟩
theorem rep_key {d : D} {k : Ky} (h : RepX G O H v d) (hk : keyD d = some k) : v = L2.kV k := by
  cases d with
  | int i => cases hk; exact h.int
  | str i => cases hk; exact h.str
  | _ => cases hk
theorem RepX.full {d : D} (h : RepX G O H v d) : Rep G H v d := by
  rcases h with h | ⟨a, rfl, _, h⟩
  · exact h.full
  · exact h.rep (fun _ _ e => cut_le e) fun _ e => e
theorem Res.vl {d : D} (h : Rep G (cut H O) v d) : Res G O H v H (.val d) := ⟨fun _ _ e => e, h⟩
theorem Res.nl {p : Addr} {xs : List V} {ds : List D} (hp : H p = none) (h : Reps G (cut H O) xs ds) : Res G O H (.ref p) (upd H p (.lst xs)) (.own (.lst ds)) :=
  ⟨p, _, rfl, hp, rfl, trivial, xs, upd_same, h.mono (cut_new hp)⟩
theorem Res.nt {p : Addr} {xs : List V} {ds : List D} (od : ∀ a ∈ O, ∃ o, H a = some o ∧ Mut (some o)) (hp : H p = none) (h : Reps G (cut H O) xs ds) : Res G O H (.ref p) (upd H p (.tup xs)) (.val (.tup ds)) := by
  have hO : p ∉ O := fun m => by
    obtain ⟨o, e, _⟩ := od p m
    rw [hp] at e; cases e
  have k : ∀ b o, cut H O b = some o → cut (upd H p (.tup xs)) O b = some o := (Ext.same (same_upd hp)).cuts
  exact ⟨same_upd hp, .tup (.of (cut_some.mpr ⟨hO, upd_same⟩)) (h.mono k)⟩
theorem Res.nd {p : Addr} {xs : List (L2.Key × V)} {ds : List (Ky × D)} (hp : H p = none) (h : KReps G (cut H O) xs ds) : Res G O H (.ref p) (upd H p (.dK xs)) (.own (.dic ds)) :=
  ⟨p, _, rfl, hp, rfl, trivial, xs, upd_same, h.mono (cut_new hp)⟩
theorem reps_ints : ∀ {xs : List V} {ds : List D} {ns : List Int}, Reps G H xs ds → intsD ds = some ns → xs = ns.map V.int
  | _, _, _, .nil, h => by cases h; rfl
  | v :: vs, d :: ds, ns, .cons h r, e => by
    cases h with
    | int i =>
      simp only [intsD, Option.map_eq_some_iff] at e
      obtain ⟨ms, e1, rfl⟩ := e
      rw [reps_ints r e1, List.map_cons]
    | _ => cases e
theorem reps_bls : ∀ {xs : List V} {ds : List D} {ns : List Bool}, Reps G H xs ds → blsD ds = some ns → xs = ns.map V.bl
  | _, _, _, .nil, h => by cases h; rfl
  | v :: vs, d :: ds, ns, .cons h r, e => by
    cases h with
    | bl i =>
      simp only [blsD, Option.map_eq_some_iff] at e
      obtain ⟨ms, e1, rfl⟩ := e
      rw [reps_bls r e1, List.map_cons]
    | _ => cases e
mutual
theorem Rep.dp : ∀ {v : V} {d : D}, Rep G H v d → d.pure = true → Dp G.K H v d.py
  | _, _, .non, _ => .non
  | _, _, .bl b, _ => .bl b
  | _, _, .int i, _ => .int i
  | _, _, .str s, _ => .str s
  | _, _, .lst h r, e => by
    rw [D.pure] at e
    rw [D.py]; exact .lst (.of h) (Reps.dp r e)
  | _, _, .tup h r, e => by
    rw [D.pure] at e
    rw [D.py]; exact .tup h (Reps.dp r e)
  | _, _, .rol h r, e => by rw [D.pure] at e; cases e
  | _, _, .fn h, e => by rw [D.pure] at e; cases e
  | _, _, .ty n, e => by rw [D.pure] at e; cases e
  | _, _, .dic h r, e => by rw [D.pure] at e; cases e
theorem Reps.dp : ∀ {vs : List V} {ds : List D}, Reps G H vs ds → D.pures ds = true → DpAll G.K H vs (D.pys ds)
  | _, _, .nil, _ => by rw [D.pys]; exact .nil
  | _, _, .cons h r, e => by
    rw [D.pures, Bool.and_eq_true] at e
    rw [D.pys]; exact .cons (Rep.dp h e.1) (Reps.dp r e.2)
end
theorem okd_of {d : D} (h : d.okd = true) : d.pure = true ∧ SeqAt.shaped d.py = true := by
  unfold D.okd at h
  rwa [Bool.and_eq_true] at h
theorem any_pys (a : D) : ∀ xs : List D, (D.pys xs).any (fun z => PyData.eqv z a.py) = xs.any fun x => x.eqv a
  | [] => by rw [D.pys]; rfl
  | x :: xs => by rw [D.pys, List.any_cons, List.any_cons, any_pys a xs]; rfl
theorem reps_cut {xs : List V} {ds : List D} (h : Reps G H xs ds) (lo hi : Option Int) : Reps G H (L2.cutV xs lo hi) (cutD ds lo hi) := by
  unfold L2.cutV cutD
  rw [h.length]
  exact (h.drop _).take _
theorem rep_atI {xs : List V} {ds : List D} {i : Int} {d : D} (r : Reps G H xs ds) (h : atI ds i = some d) : ∃ v, atI xs i = some v ∧ Rep G H v d := by
  unfold atI at h ⊢
  rw [r.length]
  cases e : ixN ds.length i with
  | none => rw [e] at h; cases h
  | some j =>
    rw [e] at h
    obtain ⟨v, h1, h2⟩ := r.get (i := j) h
    exact ⟨v, h1, h2⟩
end

section
variable {X : Cx} {G : Gx}
/-- an operator of two by data -/
abbrev rD2 (G : Gx) (g : List D → Option Slot) : R2 := fun x y H Q => rD G g [x, y] H Q
theorem _root_.L2.OpR.wk {f : Value → Value → Sem Value} {r r' : R2} (h : OpR X f r) (k : ∀ x y H Q, r' x y H Q → r x y H Q) : OpR X f r' := fun pins s σ H x y v u Q I rx ry z => h pins s σ H x y v u Q I rx ry (k _ _ _ _ z)
theorem midI_log {j : Int} (h : midI j = true) : j.natAbs.log2 < 400 := PySem.Flt.log2_lt_of (by decide) (of_decide_eq_true h)
theorem mulOk_of {i j : Int} (h : mulOk i j = true) : IntMulOk i j := by
  unfold mulOk at h
  simp only [Bool.or_eq_true, Bool.and_eq_true] at h
  rcases h with h | ⟨h1, h2⟩
  · have h' : CMul i j := by
      unfold smallI at h
      simp only [decide_eq_true_eq] at h
      unfold CMul
      rcases h with h | h
      · left; omega
      · right; omega
    exact h'.ok
  · exact CMulW.ok (by have := midI_log h1; have := midI_log h2; unfold CMulW; omega)
theorem op_mulX {X : Cx} : OpR X (binaryOp .Mult) (rI (fun i j => mulOk i j = true) fun i j => .int (i * j)) := opI fun _ _ _ _ _ _ _ hc q => PyProof.Rows.mul_int q (mulOk_of hc)
theorem iop_mulX {X : Cx} : OpR X (inplaceOp .Mult) (rI (fun i j => mulOk i j = true) fun i j => .int (i * j)) := opI fun _ _ _ _ _ _ _ hc q => PyProof.Rows.imul_int q (mulOk_of hc)
theorem op_divX {X : Cx} : OpR X (binaryOp .FloorDiv) (rI (fun _ j => j ≠ 0 ∧ midI j = true) fun i j => .int (i.fdiv j)) := opI fun _ _ _ _ _ _ _ hc q => PyProof.Rows.floordiv_int hc.1 q (.inl (PyProof.noPylong_of_log2 (by have := midI_log hc.2; omega)))
theorem opr_bin {o : Operator} (hK : G.K = X.K) : OpR X (binaryOp o) (rD2 G (opf (.bin o))) := by
  intro pins s σ H x y v u Q I rx ry h
  obtain ⟨O, ds, sl, hr, od, hg, q⟩ := h
  obtain ⟨dx, dy, rfl, h1, h2⟩ := hr.two
  replace hg : binf o dx dy = some sl := hg
  have nl := fun (p : Addr) (xs : List V) (ds : List D) => Res.nl (G := G) (O := O) (H := H) (p := p) (xs := xs) (ds := ds)
  have hs : sizeLine = 16777216 := sizeLine_eq
  unfold binf at hg
  split at hg
  · cases hg; exact op_add pins s σ H x y v u Q I rx ry ⟨_, _, h1.int, h2.int, q _ _ (.vl (.int _))⟩
  · cases hg; exact op_sub pins s σ H x y v u Q I rx ry ⟨_, _, h1.int, h2.int, q _ _ (.vl (.int _))⟩
  · split at hg <;> cases hg
    rename_i c
    exact op_mulX pins s σ H x y v u Q I rx ry ⟨_, _, h1.int, h2.int, c, q _ _ (.vl (.int _))⟩
  · split at hg <;> cases hg
    rename_i c
    unfold divOk at c
    simp only [Bool.and_eq_true, decide_eq_true_eq] at c
    exact op_divX pins s σ H x y v u Q I rx ry ⟨_, _, h1.int, h2.int, c, q _ _ (.vl (.int _))⟩
  · split at hg <;> cases hg
    rename_i c
    exact op_modN pins s σ H x y v u Q I rx ry ⟨_, _, h1.int, h2.int, c, q _ _ (.vl (.int _))⟩
  · split at hg <;> cases hg
    rename_i c
    unfold powOk at c
    simp only [Bool.and_eq_true, decide_eq_true_eq] at c
    exact op_pow pins s σ H x y v u Q I rx ry ⟨_, _, h1.int, h2.int, ⟨c.1.1, c.1.2, c.2⟩, q _ _ (.vl (.int _))⟩
  · split at hg <;> cases hg
    rename_i c
    unfold powOk at c
    simp only [Bool.and_eq_true, decide_eq_true_eq] at c
    exact op_shl pins s σ H x y v u Q I rx ry ⟨_, _, h1.int, h2.int, ⟨c.1.1, c.1.2, c.2⟩, q _ _ (.vl (.int _))⟩
  · split at hg <;> cases hg
    rename_i c
    exact op_shr pins s σ H x y v u Q I rx ry ⟨_, _, h1.int, h2.int, c, q _ _ (.vl (.int _))⟩
  · cases hg; exact op_and pins s σ H x y v u Q I rx ry ⟨_, _, h1.int, h2.int, q _ _ (.vl (.int _))⟩
  · cases hg; exact op_or pins s σ H x y v u Q I rx ry ⟨_, _, h1.int, h2.int, q _ _ (.vl (.int _))⟩
  · unfold catS at hg
    split at hg <;> cases hg
    rename_i c
    exact op_add_str pins s σ H x y v u Q I rx ry ⟨_, _, h1.str, h2.str, by rw [hs]; exact c, q _ _ (.vl (.str _))⟩
  · split at hg <;> cases hg
    rename_i c
    obtain ⟨a, xs, rfl, e1, r1⟩ := h1.lst
    obtain ⟨b, ys, rfl, e2, r2⟩ := h2.lst
    exact op_cat pins s σ H _ _ v u Q I rx ry ⟨a, b, xs, ys, rfl, rfl, e1, e2, by rw [hs, r1.length, r2.length]; exact c, fun p hp => q _ _ (.nl hp (r1.append r2))⟩
  · split at hg <;> cases hg
    rename_i c
    obtain ⟨a, xs, rfl, e1, r1⟩ := h1.tup
    obtain ⟨b, ys, rfl, e2, r2⟩ := h2.tup
    rw [hK] at e1 e2
    refine op_catA pins s σ H _ _ v u Q I rx ry ⟨a, b, xs, ys, rfl, rfl, e1, e2, by rw [hs, r1.length, r2.length]; exact c, fun z => ?_, fun _ z => ?_, fun _ _ p hp => q _ _ (.nt od hp (r1.append r2))⟩
    · subst z; cases r1; exact q _ _ (.vl h2.tupR)
    · subst z; cases r2; refine q _ _ (.vl ?_); rw [List.append_nil]; exact h1.tupR
  · split at hg <;> cases hg
    rename_i c
    obtain ⟨a, xs, rfl, e1, r1⟩ := h1.lst
    exact op_rep pins s σ H _ _ v u Q I rx ry ⟨a, _, xs, rfl, h2.int, e1, by have := c.1; omega, by have := c.2.1; have : Line = 16777216 := rfl; omega, by rw [hs, r1.length]; exact c.2.2, fun p hp => q _ _ (.nl hp (r1.rep _))⟩
  · split at hg <;> cases hg
    rename_i c
    obtain ⟨c0, c2, c3⟩ := c
    obtain ⟨a, xs, rfl, e1, r1⟩ := h1.tup
    rw [hK] at e1
    have hk := h2.int
    subst hk
    rename_i ds k
    have hne : xs ≠ [] := fun z => by
      subst z; cases r1; cases c0
    by_cases k0 : k ≤ 0
    · have ek : k.toNat = 0 := by omega
      refine ZT.op_rep0 pins s σ H _ _ v u Q I rx ry ⟨a, xs, k, rfl, rfl, e1, hne, k0, by omega, fun p hp => q _ _ ?_⟩
      rw [ek]
      exact .nt od hp .nil
    by_cases k1 : k = 1
    · subst k1
      refine ZT.op_rep1 pins s σ H _ _ v u Q I rx ry ⟨a, xs, rfl, rfl, e1, q _ _ (.vl ?_)⟩
      have : (List.replicate (1 : Int).toNat ds).flatten = ds := by simp
      rw [this]; exact h1.tupR
    · exact op_repT pins s σ H _ _ v u Q I rx ry ⟨a, k, xs, rfl, rfl, e1, hne, by omega, by omega, by rw [r1.length]; exact c3, fun p hp => q _ _ (.nt od hp (r1.rep _))⟩
  · cases hg

theorem b1_some {o : Option Bool} {sl : Slot} (h : b1 o = some sl) : ∃ b, o = some b ∧ sl = .val (.bl b) := by
  cases o with
  | none => cases h
  | some b => cases h; exact ⟨b, rfl, rfl⟩
theorem i1_some {o : Option Int} {sl : Slot} (h : i1 o = some sl) : ∃ b, o = some b ∧ sl = .val (.int b) := by
  cases o with
  | none => cases h
  | some b => cases h; exact ⟨b, rfl, rfl⟩
theorem rep_nonV {H : Hp} {v : V} {d : D} (h : Rep G H v d) : decide (v = .non) = d.isNon := by
  cases h <;> rfl
/-- x in a tuple of data -/
def rInT (K : PySem.W.Frag) : R2 := fun x y H Q => ∃ d ds, Dp K H x d ∧ Dp K H y (.tuple ds) ∧ SeqAt.shaped d = true ∧ SeqAt.shaped (.tuple ds) = true ∧ Q (.bl (ds.any fun z => PyData.eqv z d)) H
def rNotInT (K : PySem.W.Frag) : R2 := fun x y H Q => ∃ d ds, Dp K H x d ∧ Dp K H y (.tuple ds) ∧ SeqAt.shaped d = true ∧ SeqAt.shaped (.tuple ds) = true ∧ Q (.bl (!ds.any fun z => PyData.eqv z d)) H
theorem op_inT (hu : X.A.units + 65 < cLine) : OpR X (compareOp .In) (rInT X.K) := by
  intro pins s σ H x y v u Q I rx ry h
  obtain ⟨d, ds, hd, he, sd, se, q⟩ := h
  obtain ⟨as, r1⟩ := Dp.reads I d x v hd rx
  obtain ⟨bs, r2⟩ := Dp.reads I (.tuple ds) y u he ry
  exact SeqAt.in_tuple_reads r2 r1 (SeqAt.canLay_of_shaped se) (SeqAt.canLay_of_shaped sd) (PyProof.Rows.room_in_shaped sd hu) ⟨.bl _, H, I, rfl, q⟩
theorem op_notInT (hu : X.A.units + 65 < cLine) : OpR X (compareOp .NotIn) (rNotInT X.K) := by
  intro pins s σ H x y v u Q I rx ry h
  obtain ⟨d, ds, hd, he, sd, se, q⟩ := h
  obtain ⟨as, r1⟩ := Dp.reads I d x v hd rx
  obtain ⟨bs, r2⟩ := Dp.reads I (.tuple ds) y u he ry
  exact SeqAt.notIn_tuple_reads r2 r1 (SeqAt.canLay_of_shaped se) (SeqAt.canLay_of_shaped sd) (PyProof.Rows.room_in_shaped sd hu) ⟨.bl _, H, I, rfl, q⟩
/-- what a table tells of a key -/
theorem dget {O : List Addr} {H : Hp} {x y : V} {kvs : List (Ky × D)} {dy : D} {k : Ky} (h1 : RepX G O H x (.dic kvs)) (h2 : RepX G O H y dy) (hk : keyD dy = some k) :
    ∃ a o, x = .ref a ∧ DGet H a y o ∧ ((∃ v d, o = some v ∧ valKD kvs k = some d ∧ Rep G (cut H O) v d) ∨ (o = none ∧ valKD kvs k = none)) := by
  obtain ⟨a, ks, rfl, e, r⟩ := h1.dic
  have ey := rep_key h2 hk
  subst ey
  refine ⟨a, L2.valV ks k, rfl, DGet.k e, ?_⟩
  rcases r.val k with ⟨v, d, h3, h4, h5⟩ | ⟨h3, h4⟩
  · exact .inl ⟨v, d, h3, h4, h5⟩
  · exact .inr ⟨h3, h4⟩
/-- a comparison by data -/
def rCX (G : Gx) (o : CmpOp) : R2 := fun x y H Q => ∃ O dx dy b, RepX G O H x dx ∧ RepX G O H y dy ∧ cmpf o dx dy = some b ∧ Q (.bl b) H
theorem opr_cmp0 {o : CmpOp} (hK : G.K = X.K) (hu : X.A.units + 65 < cLine) : OpR X (compareOp o) (rCX G o) := by
  intro pins s σ H x y v u Q I rx ry h
  obtain ⟨O, dx, dy, b, h1, h2, hg, fin⟩ := h
  have hu2 : X.A.units + 64 < cLine := by omega
  unfold cmpf at hg
  split at hg
  · cases hg; exact op_lt pins s σ H x y v u Q I rx ry ⟨_, _, h1.int, h2.int, fin⟩
  · cases hg; exact op_le pins s σ H x y v u Q I rx ry ⟨_, _, h1.int, h2.int, fin⟩
  · cases hg; exact op_gt pins s σ H x y v u Q I rx ry ⟨_, _, h1.int, h2.int, fin⟩
  · cases hg; exact op_ge pins s σ H x y v u Q I rx ry ⟨_, _, h1.int, h2.int, fin⟩
  · cases hg; exact op_lt_str pins s σ H x y v u Q I rx ry ⟨_, _, h1.str, h2.str, fin⟩
  · cases hg
    cases h1.str
    cases h2.str
    refine op_eq pins s σ H _ _ v u Q I rx ry ⟨rfl, ?_⟩
    rw [dec_str]
    rename_i i j
    rw [show (i == j) = decide (i = j) by by_cases h : i = j <;> simp [h]]
    exact fin
  · cases hg
    cases h1.str
    cases h2.str
    refine op_ne pins s σ H _ _ v u Q I rx ry ⟨rfl, ?_⟩
    rw [dec_str]
    rename_i i j
    rw [show (i == j) = decide (i = j) by by_cases h : i = j <;> simp [h]]
    exact fin
  · split at hg <;> cases hg
    rename_i c
    rw [Bool.and_eq_true] at c
    obtain ⟨p1, s1⟩ := okd_of c.1
    obtain ⟨p2, s2⟩ := okd_of c.2
    exact op_eqD hu2 pins s σ H x y v u Q I rx ry ⟨_, _, hK ▸ h1.full.dp p1, hK ▸ h2.full.dp p2, s1, s2, fin⟩
  · split at hg <;> cases hg
    rename_i c
    rw [Bool.and_eq_true] at c
    obtain ⟨p1, s1⟩ := okd_of c.1
    obtain ⟨p2, s2⟩ := okd_of c.2
    exact op_neD hu2 pins s σ H x y v u Q I rx ry ⟨_, _, hK ▸ h1.full.dp p1, hK ▸ h2.full.dp p2, s1, s2, fin⟩
  · have e := rep_nonV h1.full
    refine op_isN pins s σ H x y v u Q I rx ry ⟨h2.non, ?_⟩
    rw [e]
    cases hg; exact fin
  · have e := rep_nonV h1.full
    refine op_notN pins s σ H x y v u Q I rx ry ⟨h2.non, ?_⟩
    rw [e]
    cases hg; exact fin
  · cases hg; exact op_is_bl pins s σ H x y v u Q I rx ry ⟨_, _, h1.bl, h2.bl, fin⟩
  · cases hg; exact op_isnot_bl pins s σ H x y v u Q I rx ry ⟨_, _, h1.bl, h2.bl, fin⟩
  · split at hg <;> cases hg
    rename_i c
    rw [Bool.and_eq_true] at c
    obtain ⟨p1, s1⟩ := okd_of c.1
    obtain ⟨p2, s2⟩ := okd_of c.2
    have z := h2.full.dp p2
    rw [D.py] at z s2
    refine op_inD hu pins s σ H x y v u Q I rx ry ⟨_, _, hK ▸ h1.full.dp p1, hK ▸ z, s1, s2, ?_⟩
    rw [any_pys]; exact fin
  · split at hg <;> cases hg
    rename_i c
    rw [Bool.and_eq_true] at c
    obtain ⟨p1, s1⟩ := okd_of c.1
    obtain ⟨p2, s2⟩ := okd_of c.2
    have z := h2.full.dp p2
    rw [D.py] at z s2
    refine op_notInD hu pins s σ H x y v u Q I rx ry ⟨_, _, hK ▸ h1.full.dp p1, hK ▸ z, s1, s2, ?_⟩
    rw [any_pys]; exact fin
  · split at hg <;> cases hg
    rename_i c
    rw [Bool.and_eq_true] at c
    obtain ⟨p1, s1⟩ := okd_of c.1
    obtain ⟨p2, s2⟩ := okd_of c.2
    have z := h2.full.dp p2
    rw [D.py] at z s2
    refine op_inT hu pins s σ H x y v u Q I rx ry ⟨_, _, hK ▸ h1.full.dp p1, hK ▸ z, s1, s2, ?_⟩
    rw [any_pys]; exact fin
  · split at hg <;> cases hg
    rename_i c
    rw [Bool.and_eq_true] at c
    obtain ⟨p1, s1⟩ := okd_of c.1
    obtain ⟨p2, s2⟩ := okd_of c.2
    have z := h2.full.dp p2
    rw [D.py] at z s2
    refine op_notInT hu pins s σ H x y v u Q I rx ry ⟨_, _, hK ▸ h1.full.dp p1, hK ▸ z, s1, s2, ?_⟩
    rw [any_pys]; exact fin
  · obtain ⟨k, hk, rfl⟩ := Option.map_eq_some_iff.mp hg
    obtain ⟨a, o, rfl, g, w⟩ := dget h2 h1 hk
    cases ry
    refine d_in (by omega) I g rx fun s' I' => ⟨.bl o.isSome, H, I', rfl, ?_⟩
    rcases w with ⟨z, d, e1, e2, _⟩ | ⟨e1, e2⟩
    · rw [e2] at fin; rw [e1]; exact fin
    · rw [e2] at fin; rw [e1]; exact fin
  · obtain ⟨k, hk, rfl⟩ := Option.map_eq_some_iff.mp hg
    obtain ⟨a, o, rfl, g, w⟩ := dget h2 h1 hk
    cases ry
    refine d_notIn (by omega) I g rx fun s' I' => ⟨.bl (!o.isSome), H, I', rfl, ?_⟩
    rcases w with ⟨z, d, e1, e2, _⟩ | ⟨e1, e2⟩
    · rw [e2] at fin; rw [e1]; exact fin
    · rw [e2] at fin; rw [e1]; exact fin
  · cases hg
theorem opr_cmp {o : CmpOp} (hK : G.K = X.K) (hu : X.A.units + 65 < cLine) : OpR X (compareOp o) (rD2 G (opf (.cmp o))) := (opr_cmp0 hK hu).wk fun x y H Q h => by
  obtain ⟨O, ds, sl, hr, od, hg, q⟩ := h
  obtain ⟨dx, dy, rfl, h1, h2⟩ := hr.two
  obtain ⟨b, hc, rfl⟩ := b1_some (show b1 (cmpf o dx dy) = some sl from hg)
  exact ⟨O, dx, dy, b, h1, h2, hc, q _ _ (.vl (.bl b))⟩
theorem ixr (hK : G.K = X.K) (hu : X.A.units + 65 < cLine) : IxR X (rD2 G (opf .ix)) := by
  intro e1 e2 pins s σ H x y v u Q I rx ry h hsb
  obtain ⟨O, ds, sl, hr, od, hg, q⟩ := h
  obtain ⟨dx, dy, rfl, h1, h2⟩ := hr.two
  replace hg : (ixf dx dy).map Slot.val = some sl := hg
  have hs : sizeLine = 16777216 := sizeLine_eq
  obtain ⟨d, hc, rfl⟩ := Option.map_eq_some_iff.mp hg
  clear hg
  have hg := hc
  clear hc
  unfold ixf at hg
  split at hg
  · obtain ⟨a, xs, rfl, f1, r1⟩ := h1.lst
    obtain ⟨w, f2, r2⟩ := rep_atI r1 hg
    exact ix_list e1 e2 pins s σ H _ _ v u Q I rx ry ⟨a, xs, _, w, rfl, h2.int, .of f1, f2, q _ _ (.vl r2)⟩ hsb
  · obtain ⟨a, xs, rfl, f1, r1⟩ := h1.tup
    obtain ⟨w, f2, r2⟩ := rep_atI r1 hg
    exact ix_tup e1 e2 pins s σ H _ _ v u Q I rx ry ⟨a, xs, _, w, rfl, h2.int, hK ▸ f1, f2, q _ _ (.vl r2)⟩ hsb
  · split at hg
    · rename_i c
      obtain ⟨w, f2, rfl⟩ := Option.map_eq_some_iff.mp hg
      exact ix_str e1 e2 pins s σ H _ _ v u Q I rx ry ⟨_, _, w, h1.str, h2.int, by rw [hs]; exact c, f2, q _ _ (.vl (.str _))⟩ hsb
    · cases hg
  · obtain ⟨k, hk, hv⟩ := Option.bind_eq_some_iff.mp hg
    obtain ⟨a, o, rfl, g, w⟩ := dget h1 h2 hk
    rcases w with ⟨z, d', e3, e4, r3⟩ | ⟨_, e4⟩
    · rw [hv] at e4
      cases e4
      subst e3
      cases rx
      exact PyProof.Rows.tail_any (dict_typeIs I g) slot_dict_getitem.lookup (d_getItem (by omega) I g ry fun w' s' I' rw' => ⟨z, H, I', rw', q _ _ (.vl r3)⟩) hsb
    · rw [hv] at e4; cases e4
  · cases hg
theorem cutD_whole {ds : List D} {lo hi : Option Int} (h : HT.sIx ds.length 0 lo = 0 ∧ HT.sIx ds.length ds.length hi = ds.length) : cutD ds lo hi = ds := by
  unfold cutD
  rw [h.1, h.2]; simp
/-- a slice by data -/
def rSl (G : Gx) : V → Option Int → Option Int → Hp → VK → Prop := fun x lo hi H Q => ∃ O d s, RepX G O H x d ∧ (∀ a ∈ O, ∃ o, H a = some o ∧ Mut (some o)) ∧ slf lo hi d = some s ∧ ∀ v H', Res G O H v H' s → Q v H'
theorem slr (hK : G.K = X.K) : SlR X (rSl G) := by
  intro pins s σ H x v vl vu lo hi sl Q I rx hs pl pu h
  obtain ⟨O, d, sl', h1, od, hg, q⟩ := h
  unfold slf at hg
  split at hg
  · cases hg
    obtain ⟨a, xs, rfl, e1, r1⟩ := h1.lst
    exact sl_list pins s σ H _ v vl vu lo hi sl Q I rx hs pl pu ⟨a, xs, rfl, .of e1, fun p hp => q _ _ (.nl hp (reps_cut r1 lo hi))⟩
  · cases hg
    have h0 := h1.tupR
    obtain ⟨a, xs, rfl, e1, r1⟩ := h1.tup
    refine sl_tupA pins s σ H _ v vl vu lo hi sl Q I rx hs pl pu ⟨a, xs, rfl, hK ▸ e1, fun z => ?_, fun _ p hp => q _ _ (.nt od hp (reps_cut r1 lo hi))⟩
    rw [r1.length] at z
    refine q _ _ (.vl ?_)
    rw [cutD_whole z]; exact h0
  · cases hg
theorem _root_.L2.CallR.wk {f : Value} {r r' : List V → Hp → VK → Prop} (h : CallR X f r) (k : ∀ xs H Q, r' xs H Q → r xs H Q) : CallR X f r' := fun pins s σ H xs us Q I r z => h pins s σ H xs us Q I r (k _ _ _ z)
theorem RepXs.get1 {g : List D → Option Slot} {G : Gx} {O : List Addr} {H : Hp} {vs : List V} {ds : List D} {sl : Slot} (hr : RepXs G O H vs ds) (hg : g ds = some sl) (h1 : ∀ ds, ds.length ≠ 1 → g ds = none) : ∃ v d, vs = [v] ∧ ds = [d] ∧ RepX G O H v d ∧ g [d] = some sl := by
  by_cases hl : ds.length = 1
  · match ds, hl, hr, hg with
    | [d], _, hr, hg =>
      obtain ⟨v, rfl, h⟩ := hr.one
      exact ⟨v, d, rfl, rfl, h, hg⟩
  · rw [h1 ds hl] at hg; cases hg
theorem len1 {o : Op} (h : ∀ a b r, opf o (a :: b :: r) = none) (h0 : opf o [] = none) : ∀ ds : List D, ds.length ≠ 1 → opf o ds = none
  | [], _ => h0
  | [_], q => absurd rfl q
  | a :: b :: r, _ => h a b r
theorem cr_len (hK : G.K = X.K) : CallR X (.builtin "len") (rD G (opf .len)) := by
  intro pins s σ H xs us Q I r h
  obtain ⟨O, ds, sl, hr, od, hg, q⟩ := h
  have hs : sizeLine = 16777216 := sizeLine_eq
  obtain ⟨x, d, rfl, rfl, h1, hg⟩ := hr.get1 hg (len1 (fun _ _ _ => by simp [opf]) rfl)
  replace hg : (lenD d).map (fun n : Nat => Slot.val (.int n)) = some sl := hg
  obtain ⟨n, hc, rfl⟩ := Option.map_eq_some_iff.mp hg
  clear hg
  by_cases hd : ∃ kvs, d = .dic kvs
  · obtain ⟨kvs, rfl⟩ := hd
    cases hc
    obtain ⟨a, ks, rfl, e1, r1⟩ := h1.dic
    refine call_lenD pins s σ H _ us Q I r ⟨a, ks, rfl, e1, ?_⟩
    rw [r1.length]
    exact q _ _ (.vl (.int _))
  refine call_len pins s σ H _ us Q I r ⟨x, n, rfl, ?_, q _ _ (.vl (.int _))⟩
  unfold lenD at hc
  split at hc
  · cases hc
    obtain ⟨a, xs, rfl, e1, r1⟩ := h1.lst
    exact .inl ⟨xs, .of e1, r1.length.symm⟩
  · cases hc
    obtain ⟨a, xs, rfl, e1, r1⟩ := h1.rol
    exact .inl ⟨xs, hK ▸ e1, r1.length.symm⟩
  · cases hc
    obtain ⟨a, xs, rfl, e1, r1⟩ := h1.tup
    exact .inr ⟨xs, hK ▸ e1, r1.length.symm⟩
  · split at hc <;> cases hc
    rename_i c
    rw [h1.str]
    exact ⟨by rw [hs]; exact c, rfl⟩
  · exact (hd ⟨_, rfl⟩).elim
  · cases hc
theorem isi_kind {n : String} {d : D} {b : Bool} (h : isiD n d = some b) : ∃ t, kindD d = some t ∧ kitB t n = some b := Option.bind_eq_some_iff.mp h
theorem cr_isi {n : String} (hK : G.K = X.K) : CallR X (.builtin "isinstance") (fun xs H Q => ∃ x, xs = [x, .ty n] ∧ rD G (opf (.isi n)) [x] H Q) := call_isi.wk fun xs H Q h => by
  obtain ⟨x, rfl, O, ds, sl, hr, od, hg, q⟩ := h
  obtain ⟨x', d, e, rfl, h1, hg⟩ := hr.get1 hg (len1 (fun _ _ _ => by simp [opf]) rfl)
  cases e
  obtain ⟨b, hb, rfl⟩ := b1_some (show b1 (isiD n d) = some sl from hg)
  obtain ⟨t, ht, hk⟩ := isi_kind hb
  refine ⟨x, .ty n, .type t, .type n, b, rfl, .ty n, ?_, kit_ty hk, q _ _ (.vl (.bl _))⟩
  cases d with
  | non => cases ht; rw [h1.non]; exact .base .non
  | bl b => cases ht; rw [h1.bl]; exact .base (.bl _)
  | int b => cases ht; rw [h1.int]; exact .base (.int _)
  | str b => cases ht; rw [h1.str]; exact .base (.str _)
  | lst b => cases ht; obtain ⟨a, xs, rfl, e1, r1⟩ := h1.lst; exact .base (.lst e1)
  | tup b =>
    cases ht
    obtain ⟨a, xs, rfl, e1, r1⟩ := h1.tup
    rcases e1 with (e1 | ⟨o, e1⟩) | ⟨o, its, n, e1, e2, _⟩
    · exact .base (.tup e1)
    · exact .fTuple e1
    · exact .kTuple (hK ▸ e1) e2
  | _ => cases ht
theorem cr_int : CallR X (.type "int") (rD G (opf .int)) := call_int1.wk fun xs H Q h => by
  obtain ⟨O, ds, sl, hr, od, hg, q⟩ := h
  obtain ⟨x, d, rfl, rfl, h1, hg⟩ := hr.get1 hg (len1 (fun _ _ _ => by simp [opf]) rfl)
  cases d with
  | int i => cases hg; rw [h1.int]; exact .inl ⟨_, rfl, q _ _ (.vl (.int _))⟩
  | bl i => cases hg; rw [h1.bl]; exact .inr ⟨_, rfl, q _ _ (.vl (.int _))⟩
  | _ => cases hg
theorem cr_abs : CallR X (.builtin "abs") (rD G (opf .abs)) := call_abs.wk fun xs H Q h => by
  obtain ⟨O, ds, sl, hr, od, hg, q⟩ := h
  obtain ⟨x, d, rfl, rfl, h1, hg⟩ := hr.get1 hg (len1 (fun _ _ _ => by simp [opf]) rfl)
  cases d with
  | int i => cases hg; rw [h1.int]; exact ⟨_, rfl, q _ _ (.vl (.int _))⟩
  | _ => cases hg
theorem cr_allD (hc : X.calm = true) : CallR X (.builtin "all") (rD G (opf .all)) := (cr_all hc).wk fun xs H Q h => by
  obtain ⟨O, ds, sl, hr, od, hg, q⟩ := h
  obtain ⟨x, d, rfl, rfl, h1, hg⟩ := hr.get1 hg (len1 (fun _ _ _ => by simp [opf]) rfl)
  cases d with
  | lst ys =>
    obtain ⟨b, hb, rfl⟩ := b1_some (show b1 ((blsD ys).map fun bs => bs.all id) = some sl from hg)
    obtain ⟨bs, hb2, rfl⟩ := Option.map_eq_some_iff.mp hb
    obtain ⟨a, zs, rfl, e1, r1⟩ := h1.lst
    rw [reps_bls r1 hb2] at e1
    exact ⟨a, bs, rfl, .of e1, q _ _ (.vl (.bl _))⟩
  | _ => cases hg
theorem cr_anyD (hc : X.calm = true) : CallR X (.builtin "any") (rD G (opf .any)) := (cr_any hc).wk fun xs H Q h => by
  obtain ⟨O, ds, sl, hr, od, hg, q⟩ := h
  obtain ⟨x, d, rfl, rfl, h1, hg⟩ := hr.get1 hg (len1 (fun _ _ _ => by simp [opf]) rfl)
  cases d with
  | lst ys =>
    obtain ⟨b, hb, rfl⟩ := b1_some (show b1 ((blsD ys).map fun bs => bs.any id) = some sl from hg)
    obtain ⟨bs, hb2, rfl⟩ := Option.map_eq_some_iff.mp hb
    obtain ⟨a, zs, rfl, e1, r1⟩ := h1.lst
    rw [reps_bls r1 hb2] at e1
    exact ⟨a, bs, rfl, .of e1, q _ _ (.vl (.bl _))⟩
  | _ => cases hg
theorem cr_sumD (hK : G.K = X.K) (hc : X.calm = true) : CallR X (.builtin "sum") (rD G (opf .sum)) := (ZT.cr_sumT hc).wk fun xs H Q h => by
  obtain ⟨O, ds, sl, hr, od, hg, q⟩ := h
  obtain ⟨x, d, rfl, rfl, h1, hg⟩ := hr.get1 hg (len1 (fun _ _ _ => by simp [opf]) rfl)
  cases d with
  | lst ys =>
    obtain ⟨b, hb, rfl⟩ := i1_some (show i1 ((intsD ys).map List.sum) = some sl from hg)
    obtain ⟨bs, hb2, rfl⟩ := Option.map_eq_some_iff.mp hb
    obtain ⟨a, zs, rfl, e1, r1⟩ := h1.lst
    rw [reps_ints r1 hb2] at e1
    exact ⟨a, bs, rfl, .inl (.of e1), q _ _ (.vl (.int _))⟩
  | tup ys =>
    obtain ⟨b, hb, rfl⟩ := i1_some (show i1 ((intsD ys).map List.sum) = some sl from hg)
    obtain ⟨bs, hb2, rfl⟩ := Option.map_eq_some_iff.mp hb
    obtain ⟨a, zs, rfl, e1, r1⟩ := h1.tup
    rw [reps_ints r1 hb2, hK] at e1
    exact ⟨a, bs, rfl, .inr e1, q _ _ (.vl (.int _))⟩
  | _ => cases hg
theorem maxF (r : List Int) : ∀ x : Int, (r.foldl (fun a b => if b > a then b else a) x ∈ x :: r) ∧ x ≤ r.foldl (fun a b => if b > a then b else a) x ∧ ∀ y ∈ r, y ≤ r.foldl (fun a b => if b > a then b else a) x := by
  induction r with
  | nil => intro x; simp
  | cons a r ih =>
    intro x
    rw [List.foldl_cons]
    obtain ⟨h1, h2, h3⟩ := ih (if a > x then a else x)
    refine ⟨?_, ?_, fun y hy => ?_⟩
    · rcases List.mem_cons.mp h1 with h | h
      · rw [h]; split <;> simp
      · exact List.mem_cons_of_mem _ (List.mem_cons_of_mem _ h)
    · refine Int.le_trans ?_ h2
      split <;> omega
    · rcases List.mem_cons.mp hy with rfl | hy
      · refine Int.le_trans ?_ h2
        split <;> omega
      · exact h3 y hy
theorem minF (r : List Int) : ∀ x : Int, (r.foldl (fun a b => if b < a then b else a) x ∈ x :: r) ∧ r.foldl (fun a b => if b < a then b else a) x ≤ x ∧ ∀ y ∈ r, r.foldl (fun a b => if b < a then b else a) x ≤ y := by
  induction r with
  | nil => intro x; simp
  | cons a r ih =>
    intro x
    rw [List.foldl_cons]
    obtain ⟨h1, h2, h3⟩ := ih (if a < x then a else x)
    refine ⟨?_, ?_, fun y hy => ?_⟩
    · rcases List.mem_cons.mp h1 with h | h
      · rw [h]; split <;> simp
      · exact List.mem_cons_of_mem _ (List.mem_cons_of_mem _ h)
    · refine Int.le_trans h2 ?_
      split <;> omega
    · rcases List.mem_cons.mp hy with rfl | hy
      · refine Int.le_trans h2 ?_
        split <;> omega
      · exact h3 y hy
theorem maxI_mem (r : List Int) (x : Int) : maxI (x :: r) ∈ x :: r ∧ ∀ y ∈ x :: r, y ≤ maxI (x :: r) := by
  obtain ⟨h1, h2, h3⟩ := maxF r x
  refine ⟨h1, fun y hy => ?_⟩
  rcases List.mem_cons.mp hy with rfl | hy
  · exact h2
  · exact h3 y hy
theorem minI_mem (r : List Int) (x : Int) : minI (x :: r) ∈ x :: r ∧ ∀ y ∈ x :: r, minI (x :: r) ≤ y := by
  obtain ⟨h1, h2, h3⟩ := minF r x
  refine ⟨h1, fun y hy => ?_⟩
  rcases List.mem_cons.mp hy with rfl | hy
  · exact h2
  · exact h3 y hy
theorem maxI_eq {ns : List Int} {m : Int} (h : m ∈ ns) (k : ∀ y ∈ ns, y ≤ m) : maxI ns = m := by
  cases ns with
  | nil => cases h
  | cons x r =>
    obtain ⟨h1, h2⟩ := maxI_mem r x
    have := k _ h1
    have := h2 _ h
    omega
theorem minI_eq {ns : List Int} {m : Int} (h : m ∈ ns) (k : ∀ y ∈ ns, m ≤ y) : minI ns = m := by
  cases ns with
  | nil => cases h
  | cons x r =>
    obtain ⟨h1, h2⟩ := minI_mem r x
    have := k _ h1
    have := h2 _ h
    omega
theorem cr_maxD (hK : G.K = X.K) (hc : X.calm = true) : CallR X (.builtin "max") (fun xs H Q => (xs.length = 1 ∨ xs.length = 2) ∧ rD G (opf .max) xs H Q) := ((ZT.cr_maxT hc).or (call_max2 hc)).wk fun xs H Q h => by
  obtain ⟨hl, O, ds, sl, hr, od, hg, q⟩ := h
  match xs, ds, hr, hg with
  | [x], ds, hr, hg =>
    obtain ⟨d, rfl, h1⟩ : ∃ d, ds = [d] ∧ RepX G O H x d := by
      cases hr with
      | cons h r => cases r; exact ⟨_, rfl, h⟩
    left
    cases d with
    | lst ys =>
      obtain ⟨b, hb, rfl⟩ := i1_some (show i1 ((intsD ys).bind fun ns => if ns.isEmpty then none else some (maxI ns)) = some sl from hg)
      obtain ⟨bs, hb3, hb2⟩ := Option.bind_eq_some_iff.mp hb
      split at hb2
      · cases hb2
      · rename_i hne
        cases hb2
        obtain ⟨a, zs, rfl, e1, r1⟩ := h1.lst
        rw [reps_ints r1 hb3] at e1
        refine ⟨a, bs, rfl, .inl (.of e1), ?_, fun m hm hy => ?_⟩
        · cases bs with
          | nil => exact absurd rfl hne
          | cons _ _ => simp
        · rw [← maxI_eq hm hy]; exact q _ _ (.vl (.int _))
    | tup ys =>
      obtain ⟨b, hb, rfl⟩ := i1_some (show i1 ((intsD ys).bind fun ns => if ns.isEmpty then none else some (maxI ns)) = some sl from hg)
      obtain ⟨bs, hb3, hb2⟩ := Option.bind_eq_some_iff.mp hb
      split at hb2
      · cases hb2
      · rename_i hne
        cases hb2
        obtain ⟨a, zs, rfl, e1, r1⟩ := h1.tup
        rw [reps_ints r1 hb3, hK] at e1
        refine ⟨a, bs, rfl, .inr e1, ?_, fun m hm hy => ?_⟩
        · cases bs with
          | nil => exact absurd rfl hne
          | cons _ _ => simp
        · rw [← maxI_eq hm hy]; exact q _ _ (.vl (.int _))
    | _ => cases hg
  | [x, y], _, hr, hg =>
    obtain ⟨dx, dy, rfl, h1, h2⟩ := hr.two
    right
    cases dx with
    | int i => cases dy with
      | int j => cases hg; rw [h1.int, h2.int]; exact ⟨_, _, rfl, q _ _ (.vl (.int _))⟩
      | _ => cases hg
    | _ => cases dy <;> cases hg
  | [], _, _, _ => simp at hl
  | _ :: _ :: _ :: _, _, _, _ => simp at hl
theorem cr_minD (hK : G.K = X.K) (hc : X.calm = true) : CallR X (.builtin "min") (fun xs H Q => (xs.length = 1 ∨ xs.length = 2) ∧ rD G (opf .min) xs H Q) := ((ZT.cr_minT hc).or (call_min2 hc)).wk fun xs H Q h => by
  obtain ⟨hl, O, ds, sl, hr, od, hg, q⟩ := h
  match xs, ds, hr, hg with
  | [x], ds, hr, hg =>
    obtain ⟨d, rfl, h1⟩ : ∃ d, ds = [d] ∧ RepX G O H x d := by
      cases hr with
      | cons h r => cases r; exact ⟨_, rfl, h⟩
    left
    cases d with
    | lst ys =>
      obtain ⟨b, hb, rfl⟩ := i1_some (show i1 ((intsD ys).bind fun ns => if ns.isEmpty then none else some (minI ns)) = some sl from hg)
      obtain ⟨bs, hb3, hb2⟩ := Option.bind_eq_some_iff.mp hb
      split at hb2
      · cases hb2
      · rename_i hne
        cases hb2
        obtain ⟨a, zs, rfl, e1, r1⟩ := h1.lst
        rw [reps_ints r1 hb3] at e1
        refine ⟨a, bs, rfl, .inl (.of e1), ?_, fun m hm hy => ?_⟩
        · cases bs with
          | nil => exact absurd rfl hne
          | cons _ _ => simp
        · rw [← minI_eq hm hy]; exact q _ _ (.vl (.int _))
    | tup ys =>
      obtain ⟨b, hb, rfl⟩ := i1_some (show i1 ((intsD ys).bind fun ns => if ns.isEmpty then none else some (minI ns)) = some sl from hg)
      obtain ⟨bs, hb3, hb2⟩ := Option.bind_eq_some_iff.mp hb
      split at hb2
      · cases hb2
      · rename_i hne
        cases hb2
        obtain ⟨a, zs, rfl, e1, r1⟩ := h1.tup
        rw [reps_ints r1 hb3, hK] at e1
        refine ⟨a, bs, rfl, .inr e1, ?_, fun m hm hy => ?_⟩
        · cases bs with
          | nil => exact absurd rfl hne
          | cons _ _ => simp
        · rw [← minI_eq hm hy]; exact q _ _ (.vl (.int _))
    | _ => cases hg
  | [x, y], _, hr, hg =>
    obtain ⟨dx, dy, rfl, h1, h2⟩ := hr.two
    right
    cases dx with
    | int i => cases dy with
      | int j => cases hg; rw [h1.int, h2.int]; exact ⟨_, _, rfl, q _ _ (.vl (.int _))⟩
      | _ => cases hg
    | _ => cases dy <;> cases hg
  | [], _, _, _ => simp at hl
  | _ :: _ :: _ :: _, _, _, _ => simp at hl
theorem cr_tupleD (hK : G.K = X.K) : CallR X (.type "tuple") (rD G (opf .tuple)) := call_tuple_of.wk fun xs H Q h => by
  obtain ⟨O, ds, sl, hr, od, hg, q⟩ := h
  obtain ⟨x, d, rfl, rfl, h1, hg⟩ := hr.get1 hg (len1 (fun _ _ _ => by simp [opf]) rfl)
  cases d with
  | lst ys =>
    cases hg
    obtain ⟨a, zs, rfl, e1, r1⟩ := h1.lst
    exact ⟨a, zs, rfl, .inl ⟨.of e1, fun p hp => q _ _ (.nt od hp r1)⟩⟩
  | tup ys =>
    cases hg
    have h0 := h1.tupR
    obtain ⟨a, zs, rfl, e1, r1⟩ := h1.tup
    exact ⟨a, zs, rfl, .inr ⟨hK ▸ e1, q _ _ (.vl h0)⟩⟩
  | _ => cases hg
theorem sortI_perm (l : List Int) : (sortI l).Perm l := List.mergeSort_perm _ _
theorem sortI_pw (l : List Int) : (sortI l).Pairwise (· ≤ ·) := by
  have := List.pairwise_mergeSort (le := fun a b : Int => decide (a ≤ b)) (fun a b c h1 h2 => by simp at *; omega) (fun a b => by simp; omega) l
  exact this.imp fun h => by simpa using h
theorem sortI_eq {l m : List Int} (h : m.Perm l) (p : m.Pairwise (· ≤ ·)) : m = sortI l :=
  List.Perm.eq_of_pairwise (le := fun a b : Int => a ≤ b) (fun a b _ _ h1 h2 => Int.le_antisymm h1 h2) p (sortI_pw l) (h.trans (sortI_perm l).symm)
theorem reps_intsR : ∀ {l : List Int}, Reps G (cut H O) (l.map V.int) (l.map D.int)
  | [] => .nil
  | i :: l => .cons (.int i) reps_intsR
theorem int_keys : ∀ {kvs : List (Ky × D)} {l : List Int}, intKs kvs = some l → kvs.map (·.1) = l.map Sum.inl
  | [], l, h => by cases h; rfl
  | (.inl i, d) :: r, l, h => by
    obtain ⟨m, h1, rfl⟩ := Option.map_eq_some_iff.mp (show (intKs r).map (i :: ·) = some l from h)
    rw [List.map_cons, List.map_cons, int_keys h1]
  | (.inr _, _) :: _, _, h => by cases h
theorem cr_sortD (hK : G.K = X.K) (hcalm : X.calm = true) : CallR X (.builtin "sorted") (rD G (opf .sort)) := by
  intro pins s σ H xs us Q I r h
  obtain ⟨O, ds, sl, hr, od, hg, q⟩ := h
  obtain ⟨x, d, rfl, rfl, h1, hg⟩ := hr.get1 hg (len1 (fun _ _ _ => by simp [opf]) rfl)
  cases d with
  | lst ys =>
    obtain ⟨l, hl, rfl⟩ := Option.map_eq_some_iff.mp (show (intsD ys).map (fun l => Slot.own (.lst ((sortI l).map .int))) = some sl from hg)
    obtain ⟨a, zs, rfl, e1, r1⟩ := h1.lst
    rw [reps_ints r1 hl] at e1
    refine cr_sortedI pins s σ H _ us Q I r ⟨a, l, rfl, .of e1, fun m p hm hp hn => ?_⟩
    rw [sortI_eq hm hp]
    exact q _ _ (.nl hn reps_intsR)
  | dic kvs =>
    obtain ⟨l, hl, hg⟩ := Option.bind_eq_some_iff.mp (show (intKs kvs).bind (fun l => if l.length < 64 then some (Slot.own (.lst ((sortI l).map .int))) else none) = some sl from hg)
    by_cases c : l.length < 64
    case neg => rw [if_neg c] at hg; cases hg
    rw [if_pos c] at hg
    cases hg
    obtain ⟨a, ks, rfl, e1, r1⟩ := h1.dic
    refine call_sortedDI hcalm pins s σ H _ us Q I r ⟨a, ks, l, rfl, .inl e1, by rw [r1.keys]; exact int_keys hl, c, fun m p hm hp hn => ?_⟩
    rw [sortI_eq hm hp]
    exact q _ _ (.nl hn reps_intsR)
  | _ => cases hg
/-- dict of a list of pairs -/
theorem pairs_reps {K : PySem.W.Frag} (hK : G.K = K) : ∀ {xs : List V} {ds : List D} {kvs : List (Ky × D)}, Reps G (cut H O) xs ds → pairsKD ds = some kvs → ∃ (ps : List Addr) (ks : List (L2.Key × V)), xs = ps.map V.ref ∧ Paired (fun p kv => L2.SqT K H p [L2.kV kv.1, kv.2]) ps ks ∧ KReps G (cut H O) ks kvs
  | _, _, kvs, .nil, h => by cases h; exact ⟨[], [], rfl, .nil, .nil⟩
  | _, _, kvs, .cons (d := d) hv r, h => by
    cases d with
    | tup zs =>
      match zs, hv, h with
      | [a, b], hv, h =>
        unfold pairsKD at h
        split at h
        · rename_i k l h1 h2
          cases h
          obtain ⟨ps, ks, rfl, h3, h4⟩ := pairs_reps hK r h2
          cases hv with
          | tup hs hz =>
            cases hz with
            | cons ha hz =>
              cases hz with
              | cons hb hz =>
                cases hz
                have ek := rep_key (O := O) (H := H) (.inl ha) h1
                subst ek
                refine ⟨_ :: ps, (k, _) :: ks, rfl, .cons ?_ h3, .cons hb h4⟩
                exact hK ▸ SqT.full hs
        · cases h
      | [], _, h => cases h
      | [_], _, h => cases h
      | _ :: _ :: _ :: _, _, h => cases h
    | _ => cases h
theorem cr_dictD (hK : G.K = X.K) (hcalm : X.calm = true) : CallR X (.type "dict") (rD G (opf .dict)) := (call_dictP hcalm).wk fun xs H Q h => by
  obtain ⟨O, ds, sl, hr, od, hg, q⟩ := h
  obtain ⟨x, d, rfl, rfl, h1, hg⟩ := hr.get1 hg (len1 (fun _ _ _ => by simp [opf]) rfl)
  cases d with
  | lst ys =>
    obtain ⟨kvs, hl, rfl⟩ := Option.map_eq_some_iff.mp (show (pairsKD ys).map (fun kvs => Slot.own (.dic (mergeKD [] kvs))) = some sl from hg)
    obtain ⟨a, zs, rfl, e1, r1⟩ := h1.lst
    obtain ⟨ps, ks, rfl, h3, h4⟩ := pairs_reps hK r1 hl
    exact ⟨a, ps, ks, rfl, .of e1, h3, fun p hp => q _ _ (.nd hp (KReps.merge .nil h4))⟩
  | _ => cases hg
/-- repr of data -/
theorem cr_repr (hK : G.K = X.K) (hgd : X.A.guards = some []) (hu : X.A.units + 70 < cLine) : CallR X (.builtin "repr") (rD G (opf .repr)) := by
  intro pins s σ H xs us Q I r h
  obtain ⟨O, ds, sl, hr, od, hg, q⟩ := h
  obtain ⟨x, d, rfl, rfl, h1, hg⟩ := hr.get1 hg (len1 (fun _ _ _ => by simp [opf]) rfl)
  replace hg : (if reprOk d then some (Slot.val (.str d.py.shown)) else none) = some sl := hg
  split at hg <;> cases hg
  rename_i c
  unfold reprOk at c
  simp only [Bool.and_eq_true, decide_eq_true_eq] at c
  obtain ⟨p1, s1⟩ := okd_of c.1.1
  obtain ⟨u, rfl, ru⟩ := vals1 r
  have hs : sizeLine = 16777216 := sizeLine_eq
  have hz : d.py.shown.length ≤ sizeLine := by rw [hs]; exact c.2
  have fin : Q (.str d.py.shown) H := q _ _ (.vl (.str _))
  cases d with
  | non =>
    rw [h1.non] at ru
    cases ru
    rw [D.py, PyData.shown] at fin
    exact PySem.P.repr_of_none ⟨.str "None", H, I.tok _, ⟨_, rfl⟩, fin⟩
  | bl b =>
    rw [h1.bl] at ru
    cases ru
    rw [D.py, PyData.shown] at fin
    exact PySem.P.repr_of_bool ⟨.str _, H, I.tok _, ⟨_, rfl⟩, fin⟩
  | int i =>
    rw [h1.int] at ru
    obtain ⟨t, rfl⟩ := ru
    rw [D.py, PyData.shown] at fin
    have k := c.1.2
    rw [D.py, PyData.showable, decide_eq_true_eq] at k
    exact PySem.P.repr_of_int k ⟨.str _, H, I.tok _, ⟨_, rfl⟩, fin⟩
  | str z =>
    rw [h1.str] at ru
    obtain ⟨t, rfl⟩ := ru
    rw [D.py, PyData.shown] at fin hz
    exact PySem.P.repr_of_str ⟨.str _, H, I.tok _, ⟨_, rfl⟩, fin⟩ hz
  | lst ys =>
    obtain ⟨as, rd⟩ := Dp.reads I _ _ _ (hK ▸ h1.full.dp p1) ru
    obtain ⟨a, zs, rfl, _, _⟩ := h1.lst
    cases ru
    have dp := SeqAt.depth_of_shaped s1
    exact repr_of_reads' rd c.1.2 (fun z => by rw [PyData.hasDict_of_canLay _ (SeqAt.canLay_of_shaped s1)] at z; cases z) hgd (by omega) (fun _ _ e => e) (fun h' u tk k => ⟨.str _, H, I.un (Un.kept k) (I.hok.kept k), ⟨_, rfl⟩, fin⟩) hz
  | tup ys =>
    obtain ⟨as, rd⟩ := Dp.reads I _ _ _ (hK ▸ h1.full.dp p1) ru
    obtain ⟨a, zs, rfl, _, _⟩ := h1.tup
    cases ru
    have dp := SeqAt.depth_of_shaped s1
    exact repr_of_reads' rd c.1.2 (fun z => by rw [PyData.hasDict_of_canLay _ (SeqAt.canLay_of_shaped s1)] at z; cases z) hgd (by omega) (fun _ _ e => e) (fun h' u tk k => ⟨.str _, H, I.un (Un.kept k) (I.hok.kept k), ⟨_, rfl⟩, fin⟩) hz
  | _ => cases p1
end
end DL
namespace DL
open PySem L2

/-! ## what a def promises, by data -/
inductive ArgsOk (G : Gx) (O : List Addr) (H : Hp) : List Bool → List V → List D → Prop
  | nil : ArgsOk G O H [] [] []
  | val {m : List Bool} {v : V} {vs : List V} {d : D} {ds : List D} : Rep G (cut H O) v d → ArgsOk G O H m vs ds → ArgsOk G O H (false :: m) (v :: vs) (d :: ds)
  | io {m : List Bool} {a : Addr} {vs : List V} {d : D} {ds : List D} : a ∈ O → OwnAt G H O a d → ArgsOk G O H m vs ds → ArgsOk G O H (true :: m) (.ref a :: vs) (d :: ds)
def iosOf : List Bool → List V → Nat → List (Nat × Addr)
  | true :: m, .ref a :: vs, i => (i, a) :: iosOf m vs (i + 1)
  | false :: m, _ :: vs, i => iosOf m vs (i + 1)
  | _, _, _ => []
/-- the answer, the new contents of what was lent -/
def Ret (G : Gx) (O : List Addr) (H H' : Hp) (io : List Addr) (cs : List D) (v : V) : Slot → Prop
  | .val d => Rep G (cut H' O) v d ∧ Paired (fun a c => OwnAt G H' O a c) io cs
  | .own d => ∃ a, v = .ref a ∧ H a = none ∧ OwnAt G H' (a :: O) a d ∧ Paired (fun a' c => OwnAt G H' (a :: O) a' c) io cs
  | _ => False
def Frame (io : List Addr) (H H' : Hp) : Prop := ∀ b o, b ∉ io → H b = some o → H' b = some o
def spF (G : Gx) (m : List Bool) (F : Fn) : Sp := fun vs H Q E => ∃ O ds, ArgsOk G O H m vs ds ∧ ((iosOf m vs 0).map (·.2)).Nodup ∧ (∀ a ∈ O, ∃ o, H a = some o ∧ Mut (some o)) ∧ match F ds with
  | .ok (s, cs) => ∀ v H', Frame ((iosOf m vs 0).map (·.2)) H H' → Ret G O H H' ((iosOf m vs 0).map (·.2)) cs v s → Q v H'
  | .exc c x cs => ∀ cv d H', Frame ((iosOf m vs 0).map (·.2)) H H' → Paired (fun a c => OwnAt G H' O a c) ((iosOf m vs 0).map (·.2)) cs → ExcAt G O H' c x cv d → E cv d H'
  | .bad => False
theorem ArgsOk.len {G : Gx} {O : List Addr} {H : Hp} : ∀ {m : List Bool} {vs : List V} {ds : List D}, ArgsOk G O H m vs ds → vs.length = m.length ∧ ds.length = m.length
  | _, _, _, .nil => ⟨rfl, rfl⟩
  | _, _, _, .val _ r => by simp [r.len.1, r.len.2]
  | _, _, _, .io _ _ r => by simp [r.len.1, r.len.2]

def Arg.isRef : Arg → Bool
  | .dat _ => false
  | .ref _ => true
theorem cw_match {m : Bool} {e : E} {ρ : Sts} {r : R Sts (D × Sts)} {p : Arg × Sts} (h : cw m e ρ r = .ok p) : p.1.isRef = m := by
  unfold cw at h
  split at h
  · rename_i c; subst c
    split at h
    · split at h
      · cases h; rfl
      · cases h
    · cases h
  · rename_i c
    have c : m = false := by simpa using c
    subst c
    cases r with
    | ok q => cases h; rfl
    | exc _ _ _ => cases h
    | bad => cases h
theorem evCs_match {Φ : Nat → Fn} : ∀ {es : List E} {m : List Bool} {ρ : Sts} {p : List Arg × Sts}, m.length = es.length → evCs Φ m es ρ = .ok p → p.1.map Arg.isRef = m
  | [], m, ρ, p, hl, h => by
    have : m = [] := List.length_eq_zero_iff.mp hl
    subst this
    have h' : (R.ok ([], ρ) : R Sts (List Arg × Sts)) = .ok p := h
    cases h'; rfl
  | e :: es, [], ρ, p, hl, h => by simp at hl
  | e :: es, b :: m, ρ, p, hl, h => by
    have h' : ((cw b e ρ (rel (ev Φ e ρ))).bind fun p => (evCs Φ m es p.2).map fun q => (p.1 :: q.1, q.2)) = .ok p := h
    cases e1 : cw b e ρ (rel (ev Φ e ρ)) with
    | ok q =>
      rw [e1] at h'
      replace h' : ((evCs Φ m es q.2).map fun z => (q.1 :: z.1, z.2)) = .ok p := h'
      cases e2 : evCs Φ m es q.2 with
      | ok z =>
        rw [e2] at h'
        cases h'
        rw [List.map_cons, cw_match e1, evCs_match (by simpa using hl) e2]
      | exc _ _ _ => rw [e2] at h'; cases h'
      | bad => rw [e2] at h'; cases h'
    | exc _ _ _ => rw [e1] at h'; cases h'
    | bad => rw [e1] at h'; cases h'

section
variable {P : Pm} {W : WX} {σ : St} {O O' : List Addr} {H H' : Hp} {ρ ρ' : Sts}
def adr (σ : St) (i : Nat) : Addr := match σ[i]? with
  | some (some (.ref a)) => a
  | _ => 0
theorem adr_of {i : Nat} {a : Addr} (h : σ[i]? = some (some (.ref a))) : adr σ i = a := by unfold adr; rw [h]
theorem gets_mu : ∀ {as : List Arg} {ds : List D}, gets ρ as = some ds → ∀ i ∈ refs as, ((ρ[i]?).bind Slot.mu?).isSome = true
  | [], _, _, i, hi => by cases hi
  | a :: as, ds, h, i, hi => by
    unfold gets at h
    split at h
    · rename_i d ds' e1 e2
      cases a with
      | dat d => exact gets_mu e2 i hi
      | ref j =>
        rcases List.mem_cons.mp hi with rfl | hi
        · have e1' : (ρ[i]?).bind Slot.mu? = some d := e1
          rw [e1']; rfl
        · exact gets_mu e2 i hi
    · cases h
theorem args_ok (R : Rel P O ρ σ H) : ∀ {as : List Arg} {vs : List V} {ds : List D} (k : Nat), ArgsAt P σ O H vs as → gets ρ as = some ds →
    ArgsOk P.G O H (as.map Arg.isRef) vs ds ∧ (iosOf (as.map Arg.isRef) vs k).map (·.2) = (refs as).map (adr σ)
  | [], _, _, _, .nil, h => by cases h; exact ⟨.nil, rfl⟩
  | a :: as, _, ds, k, .cons h1 h2, h => by
    unfold gets at h
    split at h
    · rename_i d ds' e1 e2
      cases h
      obtain ⟨k1, k2⟩ := args_ok R (k + 1) h2 e2
      cases a with
      | dat d' => cases e1; exact ⟨.val h1 k1, k2⟩
      | ref i =>
        obtain ⟨b, q1, q2, q3, _⟩ := R.mu (i := i) e1
        have h1' : σ[i]? = some (some _) := h1
        rw [q1] at h1'
        cases h1'
        refine ⟨.io q2 q3 k1, ?_⟩
        show (iosOf (true :: as.map Arg.isRef) (V.ref b :: _) k).map (·.2) = adr σ i :: (refs as).map (adr σ)
        rw [adr_of q1, ← k2]
        rfl
    · cases h
theorem nodup_adr (R : Rel P O ρ σ H) : ∀ {is : List Nat}, is.Nodup → (∀ i ∈ is, ((ρ[i]?).bind Slot.mu?).isSome = true) → (is.map (adr σ)).Nodup
  | [], _, _ => List.nodup_nil
  | i :: is, h, k => by
    obtain ⟨h1, h2⟩ := List.nodup_cons.mp h
    rw [List.map_cons]
    refine List.nodup_cons.mpr ⟨fun m => ?_, nodup_adr R h2 fun j hj => k j (List.mem_cons_of_mem _ hj)⟩
    obtain ⟨j, hj, e⟩ := List.mem_map.mp m
    obtain ⟨d, hd⟩ := Option.isSome_iff_exists.mp (k i List.mem_cons_self)
    obtain ⟨d', hd'⟩ := Option.isSome_iff_exists.mp (k j (List.mem_cons_of_mem _ hj))
    obtain ⟨a, q1, _⟩ := R.mu hd
    obtain ⟨b, q2, _⟩ := R.mu hd'
    rw [adr_of q1, adr_of q2] at e
    subst e
    have := R.muNe (k i List.mem_cons_self) (k j (List.mem_cons_of_mem _ hj)) q1 q2
    subst this
    exact h1 hj
theorem setIos_spec : ∀ {as : List Arg} {cs : List D} {ρ ρ' : Sts}, setIos as cs ρ = some ρ' → (refs as).Nodup →
    ρ'.length = ρ.length ∧ cs.length = (refs as).length ∧ (∀ j, j ∉ refs as → ρ'[j]? = ρ[j]?) ∧ ∀ (k i : Nat) (c : D), (refs as)[k]? = some i → cs[k]? = some c → ρ'[i]? = (ρ[i]?).map fun s => s.put c
  | [], [], ρ, ρ', h, _ => by cases h; exact ⟨rfl, rfl, fun _ _ => rfl, fun k i c e => by simp [refs] at e⟩
  | [], _ :: _, _, _, h, _ => by cases h
  | .ref i :: as, [], _, _, h, _ => by cases h
  | .ref i :: as, c :: cs, ρ, ρ', h, nd => by
    have h' : setIos as cs (putE ρ i c) = some ρ' := h
    obtain ⟨n1, n2⟩ := List.nodup_cons.mp nd
    obtain ⟨h1, h2, h3, h4⟩ := setIos_spec h' n2
    have hp : ∀ j, i ≠ j → (putE ρ i c)[j]? = ρ[j]? := fun j hj => by unfold putE; rw [List.getElem?_set_ne hj]
    refine ⟨by rw [h1]; unfold putE; simp, by simp [refs, h2], fun j hj => ?_, fun k l c' e1 e2 => ?_⟩
    · have hj' : i ≠ j ∧ j ∉ refs as := by
        constructor
        · rintro rfl; exact hj List.mem_cons_self
        · exact fun m => hj (List.mem_cons_of_mem _ m)
      rw [h3 j hj'.2, hp j hj'.1]
    · cases k with
      | zero =>
        have e1' : i = l := by simpa [refs] using e1
        have e2' : c = c' := by simpa using e2
        subst e1' e2'
        rw [h3 i n1]
        unfold putE
        by_cases hl : i < ρ.length
        · rw [List.getElem?_set_self hl, List.getD_eq_getElem?_getD, List.getElem?_eq_getElem hl]; rfl
        · rw [List.getElem?_eq_none (by simpa using hl), List.getElem?_eq_none (by simpa using hl)]; rfl
      | succ k =>
        have e1' : (refs as)[k]? = some l := by simpa [refs] using e1
        have hl : i ≠ l := fun z => n1 (z ▸ List.mem_of_getElem? e1')
        rw [h4 k l c' e1' (by simpa using e2), hp l hl]
  | .dat d :: as, cs, ρ, ρ', h, nd => by
    have h' : setIos as cs ρ = some ρ' := by cases cs <;> exact h
    exact setIos_spec (as := as) h' nd
theorem paired_at {α β : Type} {F : α → β → Prop} : ∀ {l₁ : List α} {l₂ : List β} {i : Nat} {a : α}, Paired F l₁ l₂ → l₁[i]? = some a → ∃ b, l₂[i]? = some b ∧ F a b
  | _, _, _, _, .nil, h => by simp at h
  | _, _, 0, _, .cons r _, h => by simp at h; subst h; exact ⟨_, rfl, r⟩
  | _, _, i + 1, a, .cons _ t, h => by
    obtain ⟨b, h1, h2⟩ := paired_at (i := i) (a := a) t (by simpa using h)
    exact ⟨b, by simpa using h1, h2⟩
/-- behind a call -/
theorem Rel.after (R : Rel P O ρ σ H) {as : List Arg} {ds cs : List D} (hg : gets ρ as = some ds) (nd : (refs as).Nodup) (hset : setIos as cs ρ = some ρ')
    (fr : Frame ((refs as).map (adr σ)) H H') (hO : ∀ a ∈ O, a ∈ O') (hn : ∀ a ∈ O', a ∈ O ∨ (H a = none ∧ ∃ o, H' a = some o ∧ Mut (some o))) (cs_ok : Paired (fun a c => OwnAt P.G H' O' a c) ((refs as).map (adr σ)) cs) : Rel P O' ρ' σ H' := by
  obtain ⟨l1, l2, l3, l4⟩ := setIos_spec hset nd
  have isM := gets_mu hg
  have k : ∀ b o, cut H O b = some o → cut H' O' b = some o := fun b o e => by
    obtain ⟨h1, h2⟩ := cut_some.mp e
    refine cut_some.mpr ⟨fun m => ?_, fr b o (fun m => ?_) h2⟩
    · rcases hn b m with z | ⟨z, _⟩
      · exact h1 z
      · rw [h2] at z; cases z
    · obtain ⟨i, hi, rfl⟩ := List.mem_map.mp m
      obtain ⟨d, hd⟩ := Option.isSome_iff_exists.mp (isM i hi)
      obtain ⟨a, q1, q2, _⟩ := R.mu hd
      rw [adr_of q1] at h1
      exact h1 q2
  have at_ref : ∀ i ∈ refs as, ∃ c s, ρ[i]? = some s ∧ ρ'[i]? = some (s.put c) ∧ OwnAt P.G H' O' (adr σ i) c ∧ (s.mu?).isSome = true := fun i hi => by
    obtain ⟨n, hn⟩ := List.mem_iff_getElem?.mp hi
    have h1 : ((refs as).map (adr σ))[n]? = some (adr σ i) := by rw [List.getElem?_map, hn]; rfl
    obtain ⟨c, h2, h3⟩ := paired_at cs_ok h1
    have m := isM i hi
    cases e : ρ[i]? with
    | none => rw [e] at m; cases m
    | some s =>
      rw [e] at m
      refine ⟨c, s, rfl, ?_, h3, m⟩
      rw [l4 n i c hn h2, e]; rfl
  have other : ∀ i a d, i ∉ refs as → σ[i]? = some (some (V.ref a)) → ((ρ[i]?).bind Slot.mu?).isSome = true → OwnAt P.G H O a d → OwnAt P.G H' O' a d := fun i a d hi h1 h2 h3 => by
    refine h3.mono (fun o e => fr a o (fun m => ?_) e) k
    obtain ⟨j, hj, e⟩ := List.mem_map.mp m
    obtain ⟨d', hd⟩ := Option.isSome_iff_exists.mp (isM j hj)
    obtain ⟨b, q1, _⟩ := R.mu hd
    rw [adr_of q1] at e
    subst e
    have := R.muNe h2 (isM j hj) h1 q1
    subst this
    exact hi hj
  have own_of : ∀ (j : Nat) (u : D), ρ'[j]? = some (.own u) → ∃ u', ρ[j]? = some (.own u') := fun j u q => by
    by_cases hj : j ∈ refs as
    · obtain ⟨c, s, h1, h2, _, m⟩ := at_ref j hj
      rw [q] at h2
      cases s with
      | own f => exact ⟨f, h1⟩
      | emp => cases m
      | val _ => cases m
      | io _ => cases h2
    · rw [l3 j hj] at q; exact ⟨u, q⟩
  refine ⟨by rw [l1]; exact R.len, fun i d q => ?_, fun i d q => ?_, fun i d q => ?_, fun i j a s t q1 q2 q3 q4 => ?_, R.iod, fun b o h1 h2 => ?_, fun a h => ?_, fun a h => ?_, fun a h => hO a (R.exs a h), R.sub⟩
  · by_cases hi : i ∈ refs as
    · obtain ⟨c, s, h1, h2, _, m⟩ := at_ref i hi
      rw [q] at h2
      cases s with
      | emp => cases m
      | val _ => cases m
      | own _ => cases h2
      | io _ => cases h2
    · rw [l3 i hi] at q
      obtain ⟨v, h1, h2⟩ := R.val i d q
      exact ⟨v, h1, h2.mono k⟩
  · by_cases hi : i ∈ refs as
    · obtain ⟨c, s, h1, h2, h3, m⟩ := at_ref i hi
      rw [q] at h2
      cases s with
      | emp => cases m
      | val _ => cases m
      | io _ => cases h2
      | own f =>
        cases h2
        obtain ⟨a, g1, g2, g3, _⟩ := R.own i f h1
        rw [adr_of g1] at h3
        exact ⟨a, g1, hO a g2, g3, h3⟩
    · rw [l3 i hi] at q
      obtain ⟨a, g1, g2, g3, g4⟩ := R.own i d q
      exact ⟨a, g1, hO a g2, g3, other i a d hi g1 (by rw [q]; rfl) g4⟩
  · by_cases hi : i ∈ refs as
    · obtain ⟨c, s, h1, h2, h3, m⟩ := at_ref i hi
      rw [q] at h2
      cases s with
      | emp => cases m
      | val _ => cases m
      | own _ => cases h2
      | io f =>
        cases h2
        obtain ⟨a, g1, g2, _⟩ := R.io i f h1
        rw [adr_of g1] at h3
        exact ⟨a, g1, g2, h3⟩
    · rw [l3 i hi] at q
      obtain ⟨a, g1, g2, g4⟩ := R.io i d q
      exact ⟨a, g1, g2, other i a d hi g1 (by rw [q]; rfl) g4⟩
  · obtain ⟨s', e1⟩ := own_of i s q1
    obtain ⟨t', e2⟩ := own_of j t q2
    exact R.dis i j a s' t' e1 e2 q3 q4
  · refine fr b o (fun m => ?_) (R.fr b o h1 h2)
    obtain ⟨i, hi, e⟩ := List.mem_map.mp m
    obtain ⟨d, hd⟩ := Option.isSome_iff_exists.mp (isM i hi)
    obtain ⟨a, g1, g2, _, g3⟩ := R.mu hd
    rw [adr_of g1] at e
    subst e
    rcases g3 with z | z
    · exact h1 z
    · rcases R.ofr _ g2 with y | y
      · exact z y
      · rw [y] at h2; cases h2
  · rcases hn a h with z | ⟨z, _⟩
    · exact R.ofr a z
    · exact .inr (R.fresh z).2.2
  · rcases hn a h with z | ⟨_, z⟩
    · by_cases hm : a ∈ (refs as).map (adr σ)
      · obtain ⟨n, hn'⟩ := List.mem_iff_getElem?.mp hm
        obtain ⟨c, _, h3⟩ := paired_at cs_ok hn'
        exact h3.there
      · obtain ⟨o, h1, h2⟩ := R.odom a z
        exact ⟨o, fr a o hm h1, h2⟩
    · exact z
theorem call_args {Φ : Nat → Fn} {i : Nat} {m : List Bool} {es : List E} {Q : VK} (hm : m.length = es.length) (h : tE P W Φ (.call i m es) σ H Q) : tArgs P W (fun ρ => evCs Φ m es ρ) σ H fun vs H1 => spF P.G m (Φ i) vs H1 Q (WE W σ) := by
  obtain ⟨O, ρ, R, a⟩ := h
  refine ⟨O, ρ, R, ?_⟩
  have a2 : Aft P W σ O H ((evCs Φ m es ρ).bind (callR Φ i)) fun s ρ' O' H' => ∀ v, RepR P O' ρ' σ H' v s → Q v H' := a
  show Aft P W σ O H (evCs Φ m es ρ) fun as ρ' O' H' => ∀ vs, ArgsAt P σ O' H' vs as → spF P.G m (Φ i) vs H' Q (WE W σ)
  cases e : evCs Φ m es ρ with
  | bad => rw [e] at a2; exact a2
  | exc c x ρ' => rw [e] at a2; exact a2
  | ok p =>
    obtain ⟨as, ρ1⟩ := p
    have mt := evCs_match hm e
    rw [e] at a2
    intro O1 H1 R1 e1 vs hv
    replace a2 : Aft P W σ O H (callR Φ i (as, ρ1)) fun s ρ' O' H' => ∀ v, RepR P O' ρ' σ H' v s → Q v H' := a2
    have q := a2.mono e1
    unfold callR at q
    split at q
    · rename_i ds hds
      split at q
      · rename_i nd
        obtain ⟨k1, k2⟩ := args_ok R1 0 hv hds
        have mt' : as.map Arg.isRef = m := mt
        rw [mt'] at k1 k2
        refine ⟨O1, ds, k1, by rw [k2]; exact nodup_adr R1 nd (gets_mu hds), R1.odom, ?_⟩
        rw [k2]
        cases f : Φ i ds with
        | bad => rw [f] at q; exact q
        | exc c x cs =>
          rw [f] at q
          intro cv d H' fr cs_ok ex
          cases hset : setIos as cs ρ1 with
          | none => simp only [hset] at q; exact q.elim
          | some ρ2 =>
            simp only [hset] at q
            have R2 : Rel P O1 ρ2 σ H' := R1.after hds nd hset fr (fun _ h => h) (fun _ h => .inl h) cs_ok
            refine q O1 H' cv d R2 (fun b o h1 h2 => ⟨h1, fr b o (fun z => ?_) h2⟩) ex
            obtain ⟨j, hj, rfl⟩ := List.mem_map.mp z
            obtain ⟨d, hd⟩ := Option.isSome_iff_exists.mp (gets_mu hds j hj)
            obtain ⟨a, g1, g2, _⟩ := R1.mu hd
            rw [adr_of g1] at h1
            exact h1 g2
        | ok p =>
          obtain ⟨s, cs⟩ := p
          rw [f] at q
          intro v H' fr rt
          cases hset : setIos as cs ρ1 with
          | none => simp only [hset] at q; exact q.elim
          | some ρ2 =>
            simp only [hset] at q
            have inO : ∀ b, b ∈ (refs as).map (adr σ) → b ∈ O1 := fun b z => by
              obtain ⟨j, hj, rfl⟩ := List.mem_map.mp z
              obtain ⟨d, hd⟩ := Option.isSome_iff_exists.mp (gets_mu hds j hj)
              obtain ⟨a, g1, g2, _⟩ := R1.mu hd
              rw [adr_of g1]; exact g2
            cases s with
            | val d =>
              obtain ⟨r1, r2⟩ := rt
              have R2 : Rel P O1 ρ2 σ H' := R1.after hds nd hset fr (fun _ h => h) (fun _ h => .inl h) r2
              exact q O1 H' R2 (fun b o h1 h2 => ⟨h1, fr b o (fun z => h1 (inO b z)) h2⟩) v r1
            | own d =>
              obtain ⟨a, rfl, hn, r1, r2⟩ := rt
              obtain ⟨f1, f2, f3⟩ := R1.fresh hn
              have R2 : Rel P (a :: O1) ρ2 σ H' := R1.after hds nd hset fr (fun _ h => List.mem_cons_of_mem _ h) (fun b h => (List.mem_cons.mp h).elim (fun z => .inr (by subst z; exact ⟨hn, r1.there⟩)) .inl) r2
              refine q (a :: O1) H' R2 (fun b o h1 h2 => ⟨?_, fr b o (fun z => h1 (inO b z)) h2⟩) _ ⟨a, rfl, List.mem_cons_self, f2, fun j d' e' z => ?_, r1⟩
              · have hb : b ≠ a := ne_of_none h2 hn
                simp [hb, h1]
              · -- an own name holds an old object
                have own_old : ∃ u', ρ1[j]? = some (.own u') := by
                  obtain ⟨_, _, l3, l4⟩ := setIos_spec hset nd
                  by_cases hj : j ∈ refs as
                  · obtain ⟨n, hn'⟩ := List.mem_iff_getElem?.mp hj
                    have h1 : ((refs as).map (adr σ))[n]? = some (adr σ j) := by rw [List.getElem?_map, hn']; rfl
                    obtain ⟨c, h2, _⟩ := paired_at r2 h1
                    have := l4 n j c hn' h2
                    have e'' : ρ2[j]? = some (.own d') := e'
                    rw [e''] at this
                    cases g : ρ1[j]? with
                    | none => rw [g] at this; cases this
                    | some s =>
                      rw [g] at this
                      cases s with
                      | own f => exact ⟨f, rfl⟩
                      | emp => cases this
                      | val _ => cases this
                      | io _ => cases this
                  · exact ⟨d', by rw [← l3 j hj]; exact e'⟩
                obtain ⟨u', hu'⟩ := own_old
                obtain ⟨b, g1, g2, _⟩ := R1.own j u' hu'
                rw [z] at g1; cases g1
                exact f1 g2
            | emp => exact rt.elim
            | io _ => exact rt.elim
      · exact q.elim
    · exact q.elim
end
end DL
namespace DL
open PySem L2

/-! ## from the text to codes -/
structure FnS where
  name : Str
  mask : List Bool
structure Ctx where
  N : List Str
  sc : Scope
  fn : Str → Bool
  M : List Str
  fs : List FnS
  cs : List (Str × D)
  bs : List Str
  ds : List (Str × List (Str × Int))
  dead : Bool := false
  xs : List (Str × Str) := []
  wd : Option (Str × List (Str × Wd)) := none

def ixOf : List Str → Str → Option Nat
  | [], _ => none
  | y :: r, x => if y = x then some 0 else (ixOf r x).map (· + 1)
theorem ixOf_at : ∀ {N : List Str} {x : Str} {i : Nat}, ixOf N x = some i → N[i]? = some x
  | [], _, _, h => by cases h
  | y :: r, x, i, h => by
    unfold ixOf at h
    split at h
    · rename_i e; cases h; simp [e]
    · obtain ⟨j, e, rfl⟩ := Option.map_eq_some_iff.mp h
      simpa using ixOf_at e
def fnIx : List FnS → Str → Option (Nat × FnS)
  | [], _ => none
  | f :: r, x => if f.name = x then some (0, f) else (fnIx r x).map fun p => (p.1 + 1, p.2)
theorem fnIx_at : ∀ {N : List FnS} {x : Str} {i : Nat} {f : FnS}, fnIx N x = some (i, f) → N[i]? = some f ∧ f.name = x
  | [], _, _, _, h => by cases h
  | y :: r, x, i, f, h => by
    unfold fnIx at h
    split at h
    · rename_i e; cases h; exact ⟨rfl, e⟩
    · obtain ⟨⟨j, g⟩, e, e2⟩ := Option.map_eq_some_iff.mp h
      cases e2
      simpa using fnIx_at e
/-- the defs that may be called through a name: without owned names -/
def fnTabFrom : Nat → List FnS → List (Str × Nat × Nat)
  | _, [] => []
  | i, g :: r => if g.mask.all (fun b => !b) then (g.name, i, g.mask.length) :: fnTabFrom (i + 1) r else fnTabFrom (i + 1) r
def fnTab (fs : List FnS) : List (Str × Nat × Nat) := fnTabFrom 0 fs
theorem fnTabFrom_at : ∀ {fs : List FnS} {b i n : Nat} {x : Str}, (fnTabFrom b fs).lookup x = some (i, n) → ∃ g, b ≤ i ∧ fs[i - b]? = some g ∧ g.name = x ∧ g.mask = List.replicate n false
  | [], _, _, _, _, h => by cases h
  | g :: r, b, i, n, x, h => by
    have tail : (fnTabFrom (b + 1) r).lookup x = some (i, n) → ∃ g', b ≤ i ∧ (g :: r)[i - b]? = some g' ∧ g'.name = x ∧ g'.mask = List.replicate n false := fun h => by
      obtain ⟨g', h1, h2, h3, h4⟩ := fnTabFrom_at h
      refine ⟨g', by omega, ?_, h3, h4⟩
      rw [show i - b = (i - (b + 1)) + 1 by omega]
      simpa using h2
    unfold fnTabFrom at h
    split at h
    · rename_i hm
      by_cases e : x = g.name
      · subst e
        rw [List.lookup_cons_self] at h
        cases h
        refine ⟨g, Nat.le_refl _, by simp, rfl, ?_⟩
        exact List.eq_replicate_iff.mpr ⟨rfl, fun y hy => by simpa using List.all_eq_true.mp hm y hy⟩
      · rw [List.lookup_cons, beq_false_of_ne e] at h
        exact tail h
    · exact tail h
theorem fnTab_at {fs : List FnS} {i n : Nat} {x : Str} (h : (fnTab fs).lookup x = some (i, n)) : ∃ g, fs[i]? = some g ∧ g.name = x ∧ g.mask = List.replicate n false := by
  obtain ⟨g, _, h2, h3⟩ := fnTabFrom_at h
  exact ⟨g, h2, h3⟩
def Ctx.vis (Γ : Ctx) (x : Str) : Bool := match Γ.sc.names.lookup x with
  | some .local => true
  | some .cell => true
  | some .free => true
  | _ => false
def Ctx.gl (Γ : Ctx) (x : Str) : Bool := (match Γ.sc.names.lookup x with
  | some .globalImplicit => true
  | _ => false) && !(x == ("__debug__" : Str)) && !(x == ("__name__" : Str))
def Ctx.asgn (Γ : Ctx) (x : Str) : Bool := match Γ.sc.names.lookup x with
  | some .local => true
  | some .cell => Γ.fn x
  | _ => false
def Ctx.bi (Γ : Ctx) (x : Str) : Bool := Γ.gl x && Γ.bs.contains x
def nameE (Γ : Ctx) (x : Str) : Option E :=
  if x == ("__debug__" : Str) || x == ("__classdict__" : Str) then none
  else if Γ.vis x then (ixOf Γ.N x).map .var
  else if Γ.gl x then (match Γ.cs.lookup x with
    | some d => some (.lit d)
    | none => if (fnIx Γ.fs x).isSome then some (.lit (.fn x)) else none)
  else none
def dictOf (Γ : Ctx) : Expr → Option (List (Str × Int))
  | .Name x _ => if Γ.gl x then Γ.ds.lookup x else none
  | _ => none
def inOp (kvs : List (Str × Int)) : CmpOp → Option Op
  | .In => some (.inK kvs false)
  | .NotIn => some (.inK kvs true)
  | _ => none
def litE : Const → Option E
  | .none => some (.lit .non)
  | .bool b => some (.lit (.bl b))
  | .int i => some (.lit (.int i))
  | .str s => some (.lit (.str s))
  | _ => none
def tstE : E → E
  | .var i => .op .tru [.var i]
  | e => e
def notE (t : E) : E := .ife t (.lit (.bl false)) (.lit (.bl true))
def plainCmp : CmpOp → Bool
  | .In => false
  | .NotIn => false
  | _ => true
def isDisp : Expr → Bool
  | .Set .. => true
  | _ => false
/-- a built-in by its name, of one argument -/
def bi1T : List (Str × Op) := [("len", .len), ("int", .int), ("abs", .abs), ("all", .all), ("any", .any), ("sum", .sum), ("max", .max), ("min", .min), ("tuple", .tuple), ("list", .list), ("repr", .repr), ("sorted", .sort), ("dict", .dict)]
def bi1 (x : Str) : Option Op := bi1T.lookup x
def bi2T : List (Str × Op) := [("max", .max), ("min", .min)]
def bi2 (x : Str) : Option Op := bi2T.lookup x
def tyT : List (Str × String) := [("int", "int"), ("bool", "bool"), ("str", "str"), ("tuple", "tuple"), ("list", "list")]
def tyName (x : Str) : Option String := tyT.lookup x
def ownOf (N : List Str) (scope : Scope) : List (Str × Nat) := scope.names.filterMap fun y => match y.2 with
  | .local => (ixOf N y.1).map fun i => (y.1, i)
  | .cell => (ixOf N y.1).map fun i => (y.1, i)
  | _ => none
def Ctx.blk (Γ : Ctx) (scope : Scope) : Ctx := { Γ with sc := relS scope Γ.sc, fn := fun x => scope.names.lookup x == some .cell, xs := [], wd := none }
def tgtE : Nat → Ctx → Expr → Option T
  | 0, _, _ => none
  | n + 1, Γ, e => match e with
    | .Name x _ => if Γ.asgn x then (ixOf Γ.N x).map fun i => .name i (Γ.M.contains x) else none
    | .Tuple es _ _ => if es.all nst then (es.mapM (tgtE n Γ)).map .tup else none
    | _ => none
def tupTarget : Expr → Bool
  | .Tuple .. => true
  | _ => false
def notComp : Expr → Bool
  | .ListComp .. => false
  | .SetComp .. => false
  | .DictComp .. => false
  | _ => true
def mapO {α β : Type} (f : α → Option β) : List α → Option (List β)
  | [] => some []
  | a :: r => match f a, mapO f r with
    | some b, some bs => some (b :: bs)
    | _, _ => none
def optE (f : Expr → Option E) : Option Expr → Option (Option E)
  | none => some none
  | some e => (f e).map some
/-- what a for walks -/
def srcE (f : Expr → Option E) (Γ : Ctx) (tg : Expr) (it : Expr) : Option (Sk × List E) := match it with
  | .Call (.Name x _) [a] [] _ =>
    if x = "range" then (if nst a && Γ.bi x then (f a).map fun c => (.rng, [c]) else none)
    else if x = "enumerate" then (if nst a && Γ.bi x && tupTarget tg then (f a).map fun c => (.enum, [c]) else none)
    else (f it).map fun c => (.it, [c])
  | .Call (.Name x _) [a, b] [] _ =>
    if x = "range" then (if nst a && nst b && Γ.bi x then match f a, f b with
      | some c, some d => some (.rng, [c, d])
      | _, _ => none else none)
    else if x = "zip" then (if nst a && nst b && Γ.bi x && tupTarget tg then match f a, f b with
      | some c, some d => some (.zip, [c, d])
      | _, _ => none else none)
    else (f it).map fun c => (.it, [c])
  | .Call (.Name x _) [a, b, c] [] _ =>
    if x = "range" then (if nst a && nst b && nst c && Γ.bi x then match f a, f b, f c with
      | some p, some q, some r => some (.rng, [p, q, r])
      | _, _, _ => none else none)
    else (f it).map fun c => (.it, [c])
  | it => (f it).map fun c => (.it, [c])
mutual
def T.inn (vs : List Nat) : T → Bool
  | .name i _ => vs.contains i
  | .tup ts => T.inns vs ts
def T.inns (vs : List Nat) : List T → Bool
  | [] => true
  | t :: r => t.inn vs && T.inns vs r
end
/-- an expression; where it is asked for its truth (tst), a name is not let known -/
def cmpE : Nat → Ctx → Bool → Expr → Option E
  | 0, _, _, _ => none
  | n + 1, Γ, tst, e => match e with
    | .Constant c _ _ => litE c
    | .Name x _ => (nameE Γ x).map fun c => if tst then tstE c else c
    | .BinOp a o b _ => match cmpE n Γ false a, cmpE n Γ false b with
      | some a', some b' => some (.op (.bin o) [a', b'])
      | _, _ => none
    | .UnaryOp .USub a _ => (cmpE n Γ false a).map fun c => .op .neg [c]
    | .UnaryOp .Not (.Name x q) _ => (cmpE n Γ true (.Name x q)).map notE
    | .UnaryOp .Not a _ => (cmpE n Γ tst a).map notE
    | .BoolOp .And [a] _ => cmpE n Γ tst a
    | .BoolOp .Or [a] _ => cmpE n Γ tst a
    | .BoolOp .And (a :: b :: r) p => match cmpE n Γ tst a, cmpE n Γ tst (.BoolOp .And (b :: r) p) with
      | some a', some b' => some (.and a' b')
      | _, _ => none
    | .BoolOp .Or (a :: b :: r) p => match cmpE n Γ tst a, cmpE n Γ tst (.BoolOp .Or (b :: r) p) with
      | some a', some b' => some (.or a' b')
      | _, _ => none
    | .IfExp t a b _ => if tst then none else match cmpE n Γ true t, cmpE n Γ false a, cmpE n Γ false b with
      | some t', some a', some b' => some (.ife t' a' b')
      | _, _, _ => none
    | .Compare a [o] [b] _ => if isDisp b then none else match dictOf Γ b with
      | some kvs => match inOp kvs o, cmpE n Γ false a with
        | some op, some a' => some (.op op [a'])
        | _, _ => none
      | none => match cmpE n Γ false a, cmpE n Γ false b with
      | some a', some b' => some (.op (.cmp o) [a', b'])
      | _, _ => none
    | .Compare a [o, o2] [b, c] _ => if plainCmp o && plainCmp o2 then match cmpE n Γ false a, cmpE n Γ false b, cmpE n Γ false c with
        | some a', some b', some c' => some (.chain a' o b' o2 c')
        | _, _, _ => none
      else none
    | .Compare a [o, o2, o3] [b, c, d] _ => if plainCmp o && plainCmp o2 && plainCmp o3 then match cmpE n Γ false a, cmpE n Γ false b, cmpE n Γ false c, cmpE n Γ false d with
        | some a', some b', some c', some d' => some (.chain3 a' o b' o2 c' o3 d')
        | _, _, _, _ => none
      else none
    | .Tuple es _ _ => if es.all nst then (mapO (cmpE n Γ false) es).map fun cs => .mk .tup cs else none
    | .List es _ => if es.all nst then (mapO (cmpE n Γ false) es).map fun cs => .mk .lst cs else none
    | .Dict [] [] _ => some (.mk .dic [])
    | .Subscript a (.Slice lo hi none _) _ => match cmpE n Γ false a, optE (cmpE n Γ false) lo, optE (cmpE n Γ false) hi with
      | some a', some lo', some hi' => some (.op (.sl lo'.isSome hi'.isSome) (a' :: ((lo'.toList ++ hi'.toList).map fun c => .op .ck [c])))
      | _, _, _ => none
    | .Subscript a (.Slice none none (some (.UnaryOp .USub (.Constant (.int 1) _ _) _)) _) _ => (cmpE n Γ false a).map fun c => .op .rev [c]
    | .Subscript _ (.Slice ..) _ => none
    | .Subscript a i _ => match dictOf Γ a with
      | some kvs => (cmpE n Γ false i).map fun c => .op (.ixK kvs) [c]
      | none => match cmpE n Γ false a, cmpE n Γ false i with
      | some a', some i' => some (.op .ix [a', i'])
      | _, _ => none
    | .Call (.Name f _) args [] _ =>
      if !args.all nst then none
      else match fnIx Γ.fs f with
      | some (i, g) => if Γ.gl f && g.mask.length == args.length then (mapO (cmpE n Γ false) args).map fun cs => .call i g.mask cs else none
      | none => if Γ.vis f then (if args.isEmpty || f == ("__debug__" : Str) || f == ("__classdict__" : Str) then none else match ixOf Γ.N f, mapO (cmpE n Γ false) args with
          | some i, some cs => some (.callv i (fnTab Γ.fs) cs)
          | _, _ => none)
        else if !Γ.bi f then none
        else if f = "isinstance" then match args with
          | [a, .Name ty _] => if Γ.bi ty then match tyName ty, cmpE n Γ false a with
              | some t, some a' => some (.op (.isi t) [a'])
              | _, _ => none
            else none
          | _ => none
        else match args with
        | [a] => match bi1 f, cmpE n Γ false a with
          | some o, some a' => some (.op o [a'])
          | _, _ => none
        | [a, b] => match bi2 f, cmpE n Γ false a, cmpE n Γ false b with
          | some o, some a', some b' => some (.op o [a', b'])
          | _, _, _ => none
        | _ => none
    | .Call (.Attribute (.Name x _) m apos) [a] [] cpos =>
      if !(nst a && Γ.vis x && (apos.endLine == cpos.line) && !(x == ("__debug__" : Str)) && !(x == ("__classdict__" : Str))) then none else match ixOf Γ.N x, cmpE n Γ false a with
        | some i, some a' => if m = "append" then some (.mu .append i [a']) else if m = "extend" then some (.mu .extend i [a']) else none
        | _, _ => none
    | .Call (.Attribute (.Name x _) m apos) [] [] cpos =>
      if !(Γ.vis x && (apos.endLine == cpos.line) && !(x == ("__debug__" : Str)) && !(x == ("__classdict__" : Str))) then none else match ixOf Γ.N x with
        | some i => if m = "pop" then some (.mu .pop i []) else none
        | _ => none
    | .ListComp elt [⟨tg, it, ifs, 0⟩] scope _ =>
      if !(blkC Γ.N Γ.sc scope (ownOf Γ.N scope)) || ifs.length > 1 || isDisp it then none else
      match tgtE n (Γ.blk scope) tg, srcE (cmpE n Γ false) Γ tg it, mapO (cmpE n (Γ.blk scope) true) ifs, cmpE n (Γ.blk scope) false elt with
        | some t, some (k, src), some ifs', some elt' => if t.inn ((ownOf Γ.N scope).map (·.2)) then some (.lc ((ownOf Γ.N scope).map (·.2)) t k src ifs' elt') else none
        | _, _, _, _ => none
    | _ => none
end DL
set_option maxHeartbeats 2000000
/-! EX1: `__init__` of an own exception class over ValueError: super().__init__(a text); self.f = x. -/
namespace DL
open PySem PySem.Spec PyProof.Rows L2

/-- the text that is told to ValueError.__init__ -/
inductive TX where
  | k (s : Str) | arg | cat (a b : TX)
def TX.of (r : Str) : TX → Expr → Prop
  | .k s, e => ∃ j p, e = .Constant (.str s) j p
  | .arg, e => ∃ p1 p2 p3, e = .Call (.Name "str" p1) [.Name r p2] [] p3
  | .cat a b, e => ∃ x y p, e = .BinOp x .Add y p ∧ TX.of r a x ∧ TX.of r b y
def TX.val : TX → Str → Str
  | .k s, _ => s
  | .arg, a => a
  | .cat x y, a => x.val a ++ y.val a
def TX.len : TX → Nat → Nat
  | .k s, _ => s.length
  | .arg, n => n
  | .cat x y, n => x.len n + y.len n
theorem str_len (a b : Str) : (a ++ b).length = a.length + b.length := by
  show (a.cps ++ b.cps).size = a.cps.size + b.cps.size
  simp
theorem TX.val_len : ∀ (t : TX) (a : Str), (t.val a).length = t.len a.length
  | .k _, _ => rfl
  | .arg, _ => rfl
  | .cat x y, a => by
    show (x.val a ++ y.val a).length = x.len a.length + y.len a.length
    rw [str_len, x.val_len, y.val_len]
/-- str(y) is a -/
def AsT (y : V) (a : Str) : Prop := y = .str a ∨ ∃ i : Int, y = .int i ∧ i.natAbs.log2 < 1920 ∧ a = toString i
def tTX (t : TX) : TE := fun σ H Q => ∃ y a, σ[1]? = some (some y) ∧ AsT y a ∧ t.len a.length ≤ sizeLine ∧ Q (.str (t.val a)) H
theorem call_strB {X : Cx} : CallR X (.type "str") (fun xs H Q => ∃ y a, xs = [y] ∧ AsT y a ∧ Q (.str a) H) := by
  intro pins s σ H xs us Q I r ⟨y, a, e, q, h⟩
  rcases q with rfl | ⟨i, rfl, hz, rfl⟩
  · exact SkE.call_str_str pins s σ H xs us Q I r ⟨a, e, h⟩
  · exact call_str_int pins s σ H xs us Q I r ⟨i, e, hz, h⟩
theorem pe_tx {X : Cx} {r : Str} (hN : X.N[1]? = some r) (hv : Vis X.env.scope r) (hd : (r == ("__debug__" : Str)) = false) (hcd : (r == ("__classdict__" : Str)) = false) (hg : Gl X "str") (hm : X.mg "str" = none) (hb : bootBuiltins "str" = some (.type "str")) :
    ∀ (t : TX) (e : Expr), t.of r e → PE X e (tTX t)
  | .k s, e, ⟨j, p, h⟩ => by
    subst h
    exact ⟨fun pins s0 σ H Q I ⟨y, a, _, _, _, q⟩ => pe_str.run pins s0 σ H Q I q⟩
  | .arg, e, ⟨p1, p2, p3, h⟩ => by
    subst h
    refine ⟨fun pins s0 σ H Q I ⟨y, a, h1, h2, _, q⟩ => ?_⟩
    exact (pe_callTy call_strB hg hm hb (pa_cons (pe_var hN hv hd hcd) pa_nil)).run pins s0 σ H Q I ⟨y, h1, y, a, rfl, h2, q⟩
  | .cat x y, e, ⟨ex, ey, p, h, h1, h2⟩ => by
    subst h
    refine ⟨fun pins s0 σ H Q I ⟨v, a, k1, k2, k3, q⟩ => ?_⟩
    have k3' : x.len a.length + y.len a.length ≤ sizeLine := k3
    refine (pe_op op_add_str (pe_tx hN hv hd hcd hg hm hb x ex h1) (pe_tx hN hv hd hcd hg hm hb y ey h2)).run pins s0 σ H Q I ?_
    refine ⟨v, a, k1, k2, by omega, v, a, k1, k2, by omega, x.val a, y.val a, rfl, rfl, ?_, q⟩
    rw [x.val_len, y.val_len]
    exact k3'

/-! ### the body's context -/
def cxI (P : Program) (w : World) (K : PySem.W.Frag) (mg : Str → Option Value) (base : Heap) (N : List Str) (qual : Str) (scope : Scope) (f cc : Addr) (cd : Value) (A : Around) (outer : List Env) (s : Shared) (H : Hp) : Cx where
  prog := P
  w := w
  K := K
  mg := mg
  base := base
  A := A.deeper (PySem.W.ksEnv qual scope s.heap.objs.size f cd cc)
  N := N
  s_0 := s
  H_0 := H
  env := PySem.W.ksEnv qual scope s.heap.objs.size f cd cc
  outer := outer
  stack := PySem.W.ksEnv qual scope s.heap.objs.size f cd cc :: outer
  ex := []
  calm := false
  fn := fun y => y != ("__class__" : Str)
  pn := []
  xe := fun _ _ => False

structure InitScope (r : Str) (sc : Scope) : Prop where
  kind : sc.kind = .function
  co : sc.isCoroutine = false
  gen : sc.isGenerator = false
  ne : r ≠ ("self" : Str)
  self : sc.names.lookup ("self" : Str) = some .local
  arg : sc.names.lookup r = some .local
  sup : sc.names.lookup ("super" : Str) = some .globalImplicit
  str : sc.names.lookup ("str" : Str) = some .globalImplicit
  kc : sc.names.lookup ("__class__" : Str) = some .free
  nocell : ∀ x ∈ sc.names, x.2 ≠ .cell
  free : ∀ y, sc.names.lookup y = some .free → y = ("__class__" : Str)
  dbg : (r == ("__debug__" : Str)) = false
  cdc : (r == ("__classdict__" : Str)) = false
  hd : r ≠ ("__class__" : Str)

theorem bind2 {r : Str} {u1 u2 : Value} (ne : r ≠ ("self" : Str)) : (([("self" : Str), r].zip [u1, u2]).reverse.lookup ("self" : Str) = some u1) ∧ (([("self" : Str), r].zip [u1, u2]).reverse.lookup r = some u2) := by
  constructor
  · show ([(r, u2), (("self" : Str), u1)] : List (Str × Value)).lookup ("self" : Str) = _
    have : (("self" : Str) == r) = false := by simpa using fun z => ne z.symm
    simp [List.lookup, this]
  · show ([(r, u2), (("self" : Str), u1)] : List (Str × Value)).lookup r = _
    simp [List.lookup]

theorem inv_startI {P : Program} {w : World} {K : PySem.W.Frag} {mg : Str → Option Value} {base : Heap} {r : Str} {qual : Str} {scope : Scope} {f cc : Addr} {cd cl : Value} {cld : Option Addr} {csl : Array (Option Value)} {D : Addr} {A : Around} {outer : List Env} {s : Shared} {H : Hp} {u1 u2 : Value} {v1 v2 : V} {h0 : Heap} {tk : Nat}
    (S : InitScope r scope) (hcell : K.lookup cc = some ⟨cl, cld, .cell (some (.ref D)), csl⟩) (e0 : Env0 P w K mg base A outer s H) (r1 : RelV v1 u1) (r2 : RelV v2 u2)
    (hns : h0.Ns s.heap.objs.size (fun x => ([("self" : Str), r].zip [u1, u2]).reverse.lookup x)) (hk : ∀ b o, s.heap.get? b = some o → h0.get? b = some o) :
    Inv (cxI P w K mg base [("self" : Str), r] qual scope f cc cd A outer s H) [] [some v1, some v2] H { s with heap := h0, toks := tk } := by
  have bcc := e0.mod.kin _ _ hcell
  have lk : ∀ {x c}, (cxI P w K mg base [("self" : Str), r] qual scope f cc cd A outer s H).env.cells.lookup x = some c → x = ("__class__" : Str) ∧ c = cc := fun {x c} h => by
    have h' : ([(("__class__" : Str), cc)] : List (Str × Addr)).lookup x = some c := h
    by_cases hx : x = ("__class__" : Str)
    · subst hx
      have h2 : ([(("__class__" : Str), cc)] : List (Str × Addr)).lookup ("__class__" : Str) = some cc := by simp [List.lookup]
      rw [h2] at h'
      exact ⟨rfl, (Option.some.inj h').symm⟩
    · have e : (x == ("__class__" : Str)) = false := by simpa using hx
      simp [List.lookup, e] at h'
  have noA : ∀ b : Addr, b ∉ (cxI P w K mg base [("self" : Str), r] qual scope f cc cd A outer s H).ex := fun b z => absurd (show b ∈ ([] : List Addr) from z) (by simp)
  have hcc := e0.bs _ _ bcc
  refine ⟨⟨e0.mod, S.kind, rfl, rfl, Nat.le_refl _, fun x y c h1 h2 => ?_, fun x hx => ?_, fun x c h1 h2 => ?_, fun z => (Bool.false_ne_true z).elim, Around.frames_deeper e0.frames, .inr ⟨rfl, rfl⟩, fun b z => absurd z (noA b), e0.bs, e0.bsz, fun b _ _ => noA b, fun b z => absurd z (noA b), e0.funs, e0.frf⟩,
    rfl, e0.bare, Un.kept hk, ⟨_, hns, fun i x v h1 h2 h3 => ?_⟩, fun x c h => ?_, e0.hok.fresh (Nat.le_refl _), fun x c h => ?_, fun p hp => absurd (show p ∈ ([] : List (Addr × Obj)) from hp) (by simp), e0.hok.kept hk, rfl⟩
  · rw [(lk h1).1, (lk h2).1]
  · refine ⟨cc, ?_⟩
    have hx' : scope.names.lookup x = some .cell ∨ scope.names.lookup x = some .free := hx
    rcases hx' with hx' | hx'
    · exact absurd rfl (S.nocell _ (PySem.mem_of_lookup hx'))
    · rw [S.free x hx']
      show ([(("__class__" : Str), cc)] : List (Str × Addr)).lookup ("__class__" : Str) = some cc
      simp [List.lookup]
  · have h1' : (x != ("__class__" : Str)) = true := h1
    rw [(lk h2).1] at h1'
    exact absurd h1' (by simp)
  · have hb := bind2 (u1 := u1) (u2 := u2) S.ne
    match i, h1, h2 with
    | 0, h1, h2 =>
      have hx : x = ("self" : Str) := (Option.some.inj (show some ("self" : Str) = some x from h1)).symm
      have hv : v = v1 := (Option.some.inj (Option.some.inj (show some (some v1) = some (some v) from h2))).symm
      subst hx hv
      exact ⟨u1, r1, .inl ⟨S.self, hb.1⟩⟩
    | 1, h1, h2 =>
      have hx : x = r := (Option.some.inj (show some r = some x from h1)).symm
      have hv : v = v2 := (Option.some.inj (Option.some.inj (show some (some v2) = some (some v) from h2))).symm
      subst hx hv
      exact ⟨u2, r2, .inl ⟨S.arg, hb.2⟩⟩
    | i + 2, h1, h2 => exact absurd h1 (by show ¬ (([] : List Str)[i]? = some x); simp)
  · rw [(lk h).2]
    exact ⟨some (.ref D), _, hk _ _ hcc.1, rfl⟩
  · rw [(lk h).2]
    exact hcc.2
end DL
set_option maxHeartbeats 2000000
/-! EX2: the body of such an `__init__`, walked; FnOk. -/
namespace DL
open PySem PySem.Spec PyProof.Rows L2

section
open PySem.W

theorem refs_has (B : String) (hB : PySem.HandSPX.veTail.contains (.type B) = true) {bm : List Value} (h : PySem.HandSPX.refsVE bm = true) : bm.contains (.type B) = true := (PySem.HandSPX.refsVE_contains B bm h).trans hB

/-- the method-wrapper ValueError.__init__ of e, called -/
theorem call_mw {prog : Program} {w : World} {A : Around} {E : Value → Shared → Prop} {h : Heap} {g : Array GenState} {d : Drawn} {t : Nat} {os : OsState} {nm q : Str} {C N : Addr} {bs bm : List Value} {hdct : Bool} {sn : List Str} {sub : List Value} {ab : Bool} {col : Option Bool} {dd : Option Addr} {k0 k1 k2 k3 k5 : Option Value}
    {u e t0 : Addr} {rest : List Value} {Q : Value → Shared → Prop}
    (hC : h.get? C = some (excClassObj nm q C N bs bm hdct sn sub ab col dd k0 k1 k2 k3 k5 "ValueError.__new__")) (he : h.get? e = some (PySem.HandSPX.excO C t0)) (hu : h.get? u = some (kxs_mw "ValueError.__init__" e)) (hrest : rest.length ≤ sizeLine)
    (hq : ∀ h' t1, (∀ b o, b ≠ e → h.get? b = some o → h'.get? b = some o) → h'.get? e = some (PySem.HandSPX.excO C t1) → Q .none ⟨h', g, d, t, os⟩) :
    wpAny (model prog w) A (call (.ref u) rest) Q E ⟨h, g, d, t, os⟩ := by
  refine wpAny_call (codeAny_of_tree ?_)
  show wpAny _ A.in1 (callAny (.ref u) ⟨rest, []⟩) _ _ _
  simp only [callAny]
  refine wpAny_bind (wpAny_load hu ?_)
  simp only [kxs_mw, show (Value.type "method-wrapper" == Value.type "method" || Value.type "method-wrapper" == Value.type "builtin_function_or_method" || Value.type "method-wrapper" == Value.type "method-wrapper") = true by decide, if_true]
  refine W.KFB.if_so (by decide) ?_
  refine wpAny_bind (PySem.ESX.check_bound F.excBase_ValueError hC he rfl ?_)
  refine wpAny_bind (wpAny_pure (wpAny_pure ?_))
  refine ⟨Code.quiet_builtin _ (by decide +kernel), codeAny_builtin F.excBase_ValueError.initEntry ?_⟩
  rw [Around.under_plainId F.excBase_ValueError.init.plain _]
  wp_walk
  refine hq _ h.objs.size (fun b o hb ho => ?_) ?_
  · rw [Heap.get?_update_other _ _ (Ne.symm hb)]
    exact Heap.get?_push_of_some _ ho
  · rw [Heap.get?_update_self _ (Heap.get?_push_of_some _ he) rfl]
    rfl

theorem callWith_mw {M : Model} {A : Around} {E : Value → Shared → Prop} {s : Shared} {pos : Pos} {u x : Addr} {i : String} {env : Env} {e : Expr} {rest : List Expr} {Q : Value → Shared → Prop}
    (h : wpAny M A (spliced (backTo pos (starEach (e :: rest) env))) (fun vs s₁ => s₁.heap.get? u = some (kxs_mw i x) ∧ wpAny M A (call (.ref u) vs) Q E s₁) E s)
    (he : starEach (e :: rest) env = (false, eval e env) :: starEach rest env := by rfl) (hplain : (backTo pos (starEach rest env)).any (·.1) = false := by rfl) :
    wpAny M A (callWith pos (.ref u) [] (backTo pos (starEach (e :: rest) env)) []) Q E s := by
  rw [he] at h ⊢
  refine kxs_callWith (i := i) (x := x) (by show (false || (backTo pos (starEach rest env)).any (·.1)) = false; rw [hplain]; rfl) ?_
  exact PySem.Calls.evalArgs_plain h

/-- facts of K about the class at C and its `__init__` at f -/
structure InitK (P : Program) (K : Frag) (C f cc cda : Addr) (fd : FuncData) (fld : Str) : Prop where
  oex : OexC K C
  cell : ∃ cl cld csl, K.lookup cc = some ⟨cl, cld, .cell (some (.ref C)), csl⟩
  code : ∃ ccl cdd vs ccs file tf, K.lookup cda = some ⟨ccl, cdd, .fields vs, ccs⟩ ∧ vs[2]? = some (.str file tf) ∧ ((P.main.file : Str) == file) = true
  fn : ∃ oc od osl, K.lookup f = some ⟨oc, od, .func fd, osl⟩
  sup : ks_superIn K C C "__init__" = some (some (.builtin "ValueError.__init__"))
  opq : nsIn K cStatics "thirdparty.any" = some none
  fno : findIn K (.ref C) fld = some none
  top : (P.main.scope.names.lookup ("super" : Str)).isSome = false

theorem init_body {P : Program} {w : World} {K : Frag} {mg : Str → Option Value} {base : Heap} {r fld : Str} {q qual : Str} {params : Arguments} {scope : Scope} {dV kV doc pm ct : Value} {an : Option Addr} {C f cc cda : Addr} {A : Around} {outer : List Env} {s s1 : Shared} {H : Hp} {a : Addr} {y : V} {body : List Stmt} {txt : TX} {ex ey : Expr} {pe p0 p1 p2 p3 p4 p5 p6 p7 p8 : Pos} {ar : PySem.Arg} {Q : VK}
    (S : InitScope r scope) (F : InitK P K C f cc cda (ksFn q qual params body scope dV kV doc pm an (.ref cda) ct cc) fld) (hp : (params.posonlyargs ++ params.args).head? = some ar) (har : ar.arg = ("self" : Str))
    (hsu : mg "super" = none) (hst : mg "str" = none) (hbu : bootBuiltins "super" = some (.type "super")) (hbs : bootBuiltins "str" = some (.type "str"))
    (ht : txt.of r (.BinOp ex .Add ey pe))
    (I : Inv (cxI P w K mg base [("self" : Str), r] qual scope f cc (.ref cda) A outer s H) [] [some (.ref a), some y] H s1) (ea : H a = some (exo a C none))
    (hy : ∃ b, AsT y b ∧ txt.len b.length ≤ sizeLine)
    (hQ : ∀ dx, H dx = none → dx ≠ a → Q .non (upd (upd H dx (exd dx [(fld, y)])) a (exo a C (some dx))))
    {pl : Env → Sem Bool} (hev : ∀ env : Env, eval (.Call (.Attribute (.Call (.Name "super" p0) [] [] p1) "__init__" p2) [.BinOp ex .Add ey pe] [] p3) env = (do
      let ov ← attributeBase (.Call (.Name "super" p0) [] [] p1) "__init__" env (eval (.Call (.Name "super" p0) [] [] p1) env)
      standAt p2.atName
      let (f, first) ← holding [ov] (getMethod ov "__init__" (pl env))
      callWith p3 f first (backTo p3 (starEach [.BinOp ex .Add ey pe] env)) [])) :
    _root_.PySem.wpAt (model P w) (A.deeper (ksEnv qual scope s.heap.objs.size f (.ref cda) cc)) (.func body (ksEnv qual scope s.heap.objs.size f (.ref cda) cc))
      (execs [.Expr (.Call (.Attribute (.Call (.Name "super" p0) [] [] p1) "__init__" p2) [.BinOp ex .Add ey pe] [] p3) p4, .Assign [.Attribute (.Name "self" p5) fld p6] (.Name r p7) p8] (ksEnv qual scope s.heap.objs.size f (.ref cda) cc))
      (fun fl s' => CE outer P w H s Q (match fl with | .ret v => v | _ => .none) s') (fun _ _ => False) s1 := by
  obtain ⟨cl, cld, csl, hcell⟩ := F.cell
  obtain ⟨ccl, cdd, vs, ccs, file, tf, hcode, hvs, hfile⟩ := F.code
  obtain ⟨oc, od, osl, hf⟩ := F.fn
  obtain ⟨nm, qq, N', bs, bm, sn, sub, ab, col, dd, k0, k1, k2, k3, k5, hC, hbm⟩ := F.oex.cls
  have hcd : clsIn K C = some { name := nm, bases := bs, mro := .ref C :: bm, ns := N', qualname := qq, hasDict := true, slotNames := sn, subclasses := sub, abstract := ab, collection := col, hasDel := false } := by unfold clsIn; rw [hC] <;> rfl
  obtain ⟨mb, hb1, hb2⟩ := I.ok.mod.blt
  obtain ⟨t1, ho⟩ := exo_at I.hok ea
  have KI : K.In s1.heap := I.kIn
  refine ks_wpAt_execs_cons ?_
  refine ks_wpAt_Expr_any ?_ (by unfold interactive; rw [show (ksEnv qual scope s.heap.objs.size f (.ref cda) cc).scope.kind = _ from S.kind]; rfl)
  refine ks_wpAt_MethodCall (pl := pl _) ?_ (hev _)
  refine ks_wpAt_super_base (f := f) (cc := cda) S.sup S.kc (by decide) rfl (KI _ _ hf) rfl hp rfl (KI _ _ hcode) rfl hvs hfile F.top ?_
  refine ks_loadName_global S.kind S.sup (PySem.Calls.loadGlobal_builtin (I.ok.mod.glob.keeps I.bk) hsu (hb1.keeps I.bk) ((hb2 _ (by decide)).trans hbu) ⟨rfl, ?_⟩)
  refine wpAny_loadName_free S.kind S.kc (c := cc) (by show ([(("__class__" : Str), cc)] : List (Str × Addr)).lookup ("__class__" : Str) = some cc; simp [List.lookup]) ⟨_, KI _ _ hcell, rfl⟩ ?_
  obtain ⟨m, hn, hl⟩ := I.loc
  obtain ⟨u, ru, hu⟩ := hl 0 ("self" : Str) (.ref a) rfl rfl (.inl S.self)
  obtain rfl : u = .ref a := ru
  have hm : m ("self" : Str) = some (.ref a) := by
    rcases hu with hu | hu
    · exact hu.2
    · have k : scope.names.lookup ("self" : Str) = some .cell ∨ scope.names.lookup ("self" : Str) = some .free := hu.1
      rw [S.self] at k
      rcases k with k | k <;> cases k
  rw [har]
  refine wpAny_loadName_local S.kind S.self hn hm ?_
  refine ks_wpAny_isType_cls (KI _ _ hC) rfl ⟨rfl, ?_⟩
  obtain ⟨hp0, g, d, t, os⟩ := s1
  refine ks_wpAny_call_super (KI _ _ hC) rfl ho rfl (fun c z => by cases z) (looks_mroIn KI (by unfold mroIn; rw [hcd]; simp)) (fun h1 hso k1 => ?_)
  have I1 := I.kept (t' := t) k1
  have I2 := I1.kept (t' := t + 1) (h' := h1.push (kxs_mw "ValueError.__init__" a)) (fun b o z => Heap.get?_push_of_some _ z)
  have K1 : K.In h1 := I1.kIn
  have ne : a ≠ C := fun z => by
    have w1 := KI _ _ hC
    rw [← z, ho] at w1
    cases w1
  refine kxs_getMethod kxs_ValueError (K := K) hso (looks_opaque K1 F.opq) (l₀ := .ref C :: bm) ((looks_clsIn K1 hcd).andThen .now) (l := bm) (PySem.ESX.drop_own C bm) K1 (by
      have q := F.sup
      unfold ks_superIn at q
      rw [hcd] at q
      have q' : alongIn K "__init__" (((Value.ref C :: bm).dropWhile (· != .ref C)).drop 1) = _ := q
      rw [PySem.ESX.drop_own C bm] at q'
      exact q') (by
      have ha : h1.get? a = some (PySem.HandSPX.excO C t1) := k1 _ _ ho
      have II : InstAt h1 a (PySem.HandSPX.excO C t1) C none := ⟨ha, rfl, rfl, trivial⟩
      exact II.type.andThen (looks_mroIn K1 (by
        unfold mroIn
        rw [hcd, Option.bind_some]
        show (if (Value.ref C :: bm).isEmpty = true then none else some ((Value.ref C :: bm).contains (.type "ValueError"))) = some true
        rw [if_neg (by simp), List.contains_cons, refs_has "ValueError" (by decide +kernel) hbm, Bool.or_true]))) ne (by decide) ?_
  have hmw : (h1.push (kxs_mw "ValueError.__init__" a)).get? h1.objs.size = some (kxs_mw "ValueError.__init__" a) := Heap.get?_push_at rfl rfl
  have nH : H h1.objs.size = none := I1.hok.fresh (Nat.le_refl _)
  have Ip : Inv (cxI P w K mg base [("self" : Str), r] qual scope f cc (.ref cda) A outer s H) [(h1.objs.size, kxs_mw "ValueError.__init__" a)] [some (.ref a), some y] H ⟨h1.push (kxs_mw "ValueError.__init__" a), g, d, t + 1, os⟩ :=
    I2.pins_of fun p hp => by
      have hp' : p = (h1.objs.size, kxs_mw "ValueError.__init__" a) := by simpa using hp
      subst hp'
      exact ⟨hmw, nH, fun z => absurd (I1.lt) (by rw [← z]; exact Nat.lt_irrefl _), I1.nofs (Nat.le_refl _), fun v z => by cases z⟩
  obtain ⟨b0, hb0, hbl⟩ := hy
  have pe : PE (cxI P w K mg base [("self" : Str), r] qual scope f cc (.ref cda) A outer s H) (.BinOp ex .Add ey pe) (tTX txt) :=
    pe_tx (X := cxI P w K mg base [("self" : Str), r] qual scope f cc (.ref cda) A outer s H) rfl (.inl S.arg) S.dbg S.cdc S.str hst hbs txt _ ht
  refine callWith_mw (i := "ValueError.__init__") (x := a) ?_
  refine wpAny_mono ((pa_cons pe pa_nil).run p3 _ _ _ H (fun vs H' => ∃ z, vs = [V.str z] ∧ H' = H) (Ip.tok (t + 1)) ⟨y, b0, rfl, hb0, hbl, _, rfl, rfl⟩) (fun us s2 ⟨vs, H2, J, rv, z, ev, eH⟩ => ?_) fun _ _ z => z
  subst eH ev
  have hlen : us.length ≤ sizeLine := by
    rw [← Paired.length rv, sizeLine_eq]
    show 1 ≤ _
    omega
  have hmw2 := (J.pin (h1.objs.size, kxs_mw "ValueError.__init__" a) (by simp)).1
  obtain ⟨t2, ho2⟩ := exo_at J.hok ea
  refine ⟨hmw2, ?_⟩
  obtain ⟨hp2, g2, d2, tk2, os2⟩ := s2
  refine call_mw (J.kIn _ _ hC) ho2 hmw2 hlen fun h3 t3 k3 hx3 => ?_
  have J0 := J.pins_of (pins' := []) fun p hp => absurd hp (by simp)
  have J3 := J0.write (t' := tk2) (x := a) (e := a) (o := exo a C none) (by rw [ea]; exact True.intro) (.inl rfl) k3 ⟨_, hx3⟩ (exo_ok hx3)
  have eu : upd H2 a (exo a C none) = H2 := by
    funext b
    by_cases hb : b = a
    · rw [hb, upd_same, ea]
    · rw [upd_ne hb]
  rw [eu] at J3
  refine wpAt_of_wpAny ?_
  have ps : PS (cxI P w K mg base [("self" : Str), r] qual scope f cc (.ref cda) A outer s H2) (.Assign [.Attribute (.Name "self" p5) fld p6] (.Name r p7) p8) (tOst K fld (tVar 0) (tVar 1)) :=
    ps_ost (pe_var rfl (.inl S.self)) (pe_var rfl (.inl S.arg) S.dbg S.cdc)
  refine wpAny_mono ((pss_one ps).run [] _ _ H2 { nx := fun _ H' => Q .non H', rt := Q } J3 ?_) (fun fl s' hs => ?_) fun _ _ z => z
  · exact ⟨y, rfl, .ref a, rfl, a, C, rfl, F.oex, F.fno, .inl ⟨ea, fun dx n ne => hQ dx n ne⟩⟩
  · cases fl with
    | ret u =>
      obtain ⟨v, σ', H', J, rv, q⟩ := hs
      exact ⟨v, H', J.os, J.bare, J.base, J.hok, rv, q⟩
    | next =>
      obtain ⟨σ', H', J, q⟩ := hs
      exact ⟨.non, H', J.os, J.bare, J.base, J.hok, rfl, q⟩
    | brk =>
      obtain ⟨_, _, _, q⟩ := hs
      exact False.elim q
    | cont =>
      obtain ⟨_, _, _, q⟩ := hs
      exact False.elim q

def spI (C : Addr) (fld : Str) (txt : TX) : Sp := fun vs H Q _ => ∃ a y, vs = [V.ref a, y] ∧ H a = some (exo a C none) ∧ (∃ b, AsT y b ∧ txt.len b.length ≤ sizeLine) ∧
  ∀ dx, H dx = none → dx ≠ a → Q .non (upd (upd H dx (exd dx [(fld, y)])) a (exo a C (some dx)))

theorem fn_init {P : Program} {w : World} {K : Frag} {mg : Str → Option Value} {base : Heap} {CX : CXT} {k : Nat} {r fld : Str} {q qual : Str} {params : Arguments} {scope : Scope} {dV kV doc pm ct : Value} {an : Option Addr} {C f cc cda : Addr} {txt : TX} {ex ey : Expr} {pe p0 p1 p2 p3 p4 p5 p6 p7 p8 : Pos} {ar : PySem.Arg}
    {fd : FuncData} (hfd : fd = ksFn q qual params [.Expr (.Call (.Attribute (.Call (.Name "super" p0) [] [] p1) "__init__" p2) [.BinOp ex .Add ey pe] [] p3) p4, .Assign [.Attribute (.Name "self" p5) fld p6] (.Name r p7) p8] scope dV kV doc pm an (.ref cda) ct cc)
    (S : InitScope r scope) (F : InitK P K C f cc cda fd fld) (hcd : codeIn K (.ref cda) qual = true) (hp : (params.posonlyargs ++ params.args).head? = some ar) (har : ar.arg = ("self" : Str))
    (hsu : mg "super" = none) (hst : mg "str" = none) (hbu : bootBuiltins "super" = some (.type "super")) (hbs : bootBuiltins "str" = some (.type "str"))
    (ht : txt.of r (.BinOp ex .Add ey pe))
    {pl : Env → Sem Bool} (hev : ∀ env : Env, eval (.Call (.Attribute (.Call (.Name "super" p0) [] [] p1) "__init__" p2) [.BinOp ex .Add ey pe] [] p3) env = (do
      let ov ← attributeBase (.Call (.Name "super" p0) [] [] p1) "__init__" env (eval (.Call (.Name "super" p0) [] [] p1) env)
      standAt p2.atName
      let (f, first) ← holding [ov] (getMethod ov "__init__" (pl env))
      callWith p3 f first (backTo p3 (starEach [.BinOp ex .Add ey pe] env)) [])) :
    FnOk P w K mg base CX k f fd [("self" : Str), r] (spI C fld txt) := by
  subst hfd
  refine ⟨fun vs H Q E ⟨a, y, e, _⟩ => by rw [e]; rfl, fun A outer s H args us vs Q E hr e0 hb rv hsp => ?_⟩
  obtain ⟨a, y, e, ea, hy, hQ⟩ := hsp
  subst e
  obtain ⟨u1, u2, e, r1, r2⟩ : ∃ u1 u2, us = [u1, u2] ∧ RelV (.ref a) u1 ∧ RelV y u2 := by
    cases rv with
    | cons r1 rv =>
      cases rv with
      | cons r2 rv =>
        cases rv
        exact ⟨_, _, rfl, r1, r2⟩
  subst e
  obtain ⟨oc, od, osl, hf⟩ := F.fn
  obtain ⟨cl, cld, csl, hcell⟩ := F.cell
  have KX : K.In s.heap := e0.mod.kin.keeps fun b o z => (e0.bs b o z).1
  have lim : s.heap.NoLimit := e0.mod.nolimit.keeps fun b o z => (e0.bs b o z).1
  refine ks_codeAny_call_defAt hr.depth (KX _ _ hf) rfl lim (codeRec_of KX hcd) rfl hb S.nocell (fun x hx => ?_) (fun h0 hns hk => ?_) S.co S.gen S.kind
  · have hx' : x = ((("self" : Str), u1) : Str × Value) ∨ x = (r, u2) := by simpa using hx
    rcases hx' with rfl | rfl
    · exact S.self
    · exact S.arg
  · have I := inv_startI (qual := qual) (f := f) (cd := .ref cda) (tk := s.toks + ([("self" : Str), r].zip [u1, u2]).length) S hcell e0 r1 r2 hns hk
    refine ks_wpAt_mono (init_body S F hp har hsu hst hbu hbs ht I ea hy hQ hev) (fun fl s' h => h) fun _ _ z => z.elim
end
end DL
set_option maxHeartbeats 2000000
/-! EX3: a def that is called within an except suite with the handled exception: what it may ask of it. -/
namespace DL
open PySem PySem.Spec PyProof.Rows L2

def CX0 : CXT := fun _ _ _ _ _ _ => False
/-- a def of one argument, called with the handled exception -/
structure FnW (P : Program) (w : World) (K : PySem.W.Frag) (mg : Str → Option Value) (base : Heap) (f : Addr) (sp : Addr × Obj → Hp → VK → Prop) : Prop where
  go : ∀ (A : Around) (outer : List PySem.Env) (s : Shared) (H : Hp) (Q : VK) (p : Addr × Obj), L2H.RoomH 1 A → L2H.PinOk outer H s p → Env0 P w K mg base A outer s H → sp p H Q →
    codeAny (model P w) A (.call (.ref f) ⟨[.ref p.1], []⟩) (CR CX0 outer P w H s Q fun _ _ _ => False) s
theorem fnw_of {P : Program} {w : World} {K : PySem.W.Frag} {mg : Str → Option Value} {base : Heap} {x qual r : Str} {st : Stmt} {f : Addr} {fd : FuncData} {N : List Str} {sp : Addr × Obj → Hp → VK → Prop}
    (F : Fun K x qual st f fd) (S : FnScope N [r] (defScope st)) (hb : Binds K fd [r] [])
    (body : ∀ (cdv : Value) (A : Around) (outer : List PySem.Env) (s : Shared) (H : Hp) (Q : VK) (p : Addr × Obj), L2H.RoomH 0 (A.deeper (envOfC qual (defScope st) s.heap.objs.size f cdv)) → sp p H Q →
      ∃ t, PSs (L2H.cxH CX0 P w K mg base N qual (defScope st) f cdv A outer s H (fun _ _ _ => False) p) (defBody st) t ∧ t { nx := fun _ H' => Q .non H', rt := Q } (L2.start N [.ref p.1]) H) :
    FnW P w K mg base f sp := by
  obtain ⟨oc, od, kV, doc, pm, an, cdv, ct, osl, rfl, lk, hcd⟩ := F.ex
  refine ⟨fun A outer s H Q p room hpin e0 hsp => ?_⟩
  have inS : K.In s.heap := e0.mod.kin.keeps fun b o e => (e0.bs b o e).1
  have noL : s.heap.NoLimit := e0.mod.nolimit.keeps fun b o e => (e0.bs b o e).1
  have rv : Vals [V.ref p.1] [Value.ref p.1] := .cons rfl .nil
  have bnd := hb s [.ref p.1] inS rfl
  rw [List.append_nil] at bnd
  have kinds : ∀ y ∈ [r].zip [Value.ref p.1], (defScope st).names.lookup y.1 = some .local ∨ ((defScope st).names.lookup y.1 = some .cell ∧ ((cellsFrom (s.heap.objs.size + 1) (defScope st).names []).lookup y.1).isSome = true) := by
    rintro ⟨nm, vv⟩ hy
    cases S.par nm (List.of_mem_zip hy).1 with
    | inl q => exact .inl q
    | inr q => exact .inr ⟨q, PySem.W.cellsFrom_some _ _ _ (.inl q)⟩
  refine codeAny_call_function room.depth (inS _ _ lk) rfl S.co S.gen rfl (PySem.W.codeRec_of inS hcd) (bnd _ _ _ _ ?_)
  refine wpAny_newFunctionEnv_cells S.kind kinds fun env ee s1 ic => ?_
  subst ee
  refine ⟨noL.keeps ic.toInCall.keep, codeAny_func ?_⟩
  obtain ⟨t, ht, hq⟩ := body cdv A outer s H Q p (room.deeper _) hsp
  have I := L2H.inv_startH (CX := CX0) (E := fun _ _ _ => False) S hpin e0 rfl rv ic
  refine wpAny_mono (ht.run [] s1 _ H _ I hq) (fun fl s' hs => ?_) fun _ _ hs => hs
  have stop : ∀ {σ' : L2.St} {H' : Hp} {v : V} {u : Value}, Inv (L2H.cxH CX0 P w K mg base N qual (defScope st) f cdv A outer s H (fun _ _ _ => False) p) [] σ' H' s' → RelV v u → Q v H' → CE outer P w H s Q u s' :=
    fun {σ' H' v u} J rr q => ⟨v, H', J.os, J.bare, J.base, J.hok, rr, q⟩
  match fl, hs with
  | .ret _, ⟨_, _, _, J, rr, q⟩ => exact stop J rr q
  | .next, ⟨_, _, J, q⟩ => exact stop (v := V.non) (u := Value.none) J rfl q
  | .brk, ⟨_, _, _, q⟩ => exact q.elim
  | .cont, ⟨_, _, _, q⟩ => exact q.elim

section
variable {X : Cx} {a C : Addr} {oe : Obj}
/-- isinstance(e, c) -/
theorem call_isP (T : ExcC X.K C) (hp : (a, oe) ∈ X.pn) {dd : Addr} (hz : Zc (.ref C) (some dd) oe) (hf : ∃ vs, oe.data = .fields vs) :
    CallR X (.builtin "isinstance") (fun xs H Q => ∃ (c : V) (cv : Value) (b : Bool) (fs : List (Str × V)), xs = [.ref a, c] ∧ (∀ u, RelV c u → u = cv) ∧ PySem.W.kitOne X.K (.ref C) cv = some b ∧ H dd = some (.xd fs) ∧ Q (.bl b) H) := by
  intro pins s σ H xs us Q I r h
  obtain ⟨c, cv, b, fs, rfl, hcv, e, hdd, q⟩ := h
  obtain ⟨u1, u2, rfl, rx, rt⟩ := vals2 r
  obtain rfl : u1 = Value.ref a := rx
  have ec := hcv _ rt
  subst ec
  obtain ⟨hget, _⟩ := I.pin (a, oe) (List.mem_append_left _ hp)
  obtain ⟨vs, hv⟩ := hf
  have hx : ObjOk X.prog X.w H s.heap dd (.xd fs) := I.hok dd _ hdd
  obtain ⟨mA, hns, hr⟩ := hx
  obtain ⟨od, es, ep, ho, _⟩ := hns
  have J : PySem.W.InstAt s.heap a oe C (some od) := ⟨hget, hz.1, by unfold PySem.W.notCls; rw [hv] <;> rfl, by rw [hz.2]; exact ho⟩
  have hcl : (PySem.W.clsIn X.K C).isSome = true := by
    obtain ⟨cd, hc, _⟩ := PySem.W.any_some T.hd
    rw [hc]; rfl
  exact PySem.W.kia_one (PySem.W.kitx_exc hcl T.hg T.hk T.hs T.ha T.hn T.ht T.hm) I.kIn J e (fun z => nomatch z) fun tk => ⟨.bl b, H, I.tok tk, rfl, q⟩
/-- e.f -/
theorem pe_xfP {n : Str} {e : Expr} {te : TE} {pos : Pos} (T : ExcC X.K C) (hno : PySem.W.findIn X.K (.ref C) n = some none) (hp : (a, oe) ∈ X.pn) {dd : Addr} (hz : Zc (.ref C) (some dd) oe) (hf : ∃ vs, oe.data = .fields vs) (he : PE X e te) (hb : attributeBase e n X.env (eval e X.env) = eval e X.env) :
    PE X (.Attribute e n pos) (fun σ H Q => te σ H fun x H1 => x = .ref a ∧ ∃ (fs : List (Str × V)) (v : V), H1 dd = some (.xd fs) ∧ fs.lookup n = some v ∧ Q v H1) := by
  refine ⟨fun pins s σ H Q I h => ?_⟩
  refine attr_of hb (thn (he.run pins s σ H _ I h) fun u s1 hh => ?_)
  obtain ⟨x, H1, I1, rx, ex, fs, v, ea, l, q⟩ := hh
  subst ex
  obtain rfl : u = Value.ref a := rx
  obtain ⟨ha, _⟩ := I1.pin (a, oe) (List.mem_append_left _ hp)
  obtain ⟨vs, hd⟩ := hf
  have hx : ObjOk X.prog X.w H1 s1.heap dd (.xd fs) := I1.hok dd _ ea
  obtain ⟨mA, hns, hr⟩ := hx
  obtain ⟨od, ho, hl⟩ := lookIn_ns hns
  obtain ⟨u, hu, ru⟩ := RelO.some_of (v := v) (o := mA n) (by rw [← l]; exact hr n)
  have J : PySem.W.InstAt s1.heap a oe C (some od) := ⟨ha, hz.1, by unfold PySem.W.notCls; rw [hd] <;> rfl, by rw [hz.2]; exact ho⟩
  exact HandSPX.exc_get I1.kIn J T.hg T.hk T.hs (PySem.W.findObj_own T.hd hno rfl (by rw [hl, hu])) (handed_of ru) ⟨v, H1, I1.tok _, ru, q⟩
end

/-! ### count and index of bools -/
theorem bools_vals : ∀ {bs : List Bool} {us : List Value}, Vals (bs.map V.bl) us → us = bs.map Value.bool
  | [], _, .nil => rfl
  | b :: bs, _, .cons r rs => by
    cases r
    rw [bools_vals rs]
    rfl
section
variable {X : Cx}
theorem eqB (k : Bool) {bs : List Bool} {y : Value} (hy : y ∈ bs.map Value.bool) (A : Around) (s : Shared) : PySem.SeqAt.EqAt A s y (.bool k) (isBoolOf k y) := by
  obtain ⟨b, _, rfl⟩ := List.mem_map.mp hy
  exact PySem.SeqAt.EqAt.bool_bool b k
theorem countB (k : Bool) : ∀ bs : List Bool, (bs.map Value.bool).countP (isBoolOf k) = bs.count k
  | [] => rfl
  | b :: bs => by
    rw [List.map_cons, List.countP_cons, List.count_cons, countB k bs]
    rfl
theorem mt_countB : MtR X "list.count" (fun x xs H Q => ∃ (p : Addr) (bs : List Bool) (k : Bool), x = .ref p ∧ xs = [.bl k] ∧ SqL X.K H p (bs.map V.bl) ∧ Q (.int (bs.count k : Nat)) H) := by
  intro pins s σ H x xs v us Q I rx rxs h
  obtain ⟨p, bs, k, rfl, rfl, hs, q⟩ := h
  cases rx
  obtain ⟨u, rfl, ru⟩ := rxs.one
  cases ru
  obtain ⟨its, rv, ⟨⟨cls, dd, data, sl⟩, n, ho, hc, hdn, hd⟩, hlen⟩ := I.list hs
  simp only at hc hd
  subst hc hd
  have hi := bools_vals rv
  subst hi
  refine call_meets PySem.F.slot_list_count ⟨_, ho, rfl⟩ PySem.F.entry_list_count (PySem.F.args_list_count_2 _ _)
    (SeqAt.list_countAt p _ n dd sl (.bool k) (isBoolOf k)) ⟨ho, fun y hy => eqB k (bs := bs) (by simpa using hy) _ _, ?_⟩
  have ec : ((bs.map Value.bool).toArray.toList.countP (isBoolOf k)) = bs.count k := countB k bs
  refine ⟨.int (bs.count k : Nat), H, I.tok _, ⟨s.toks, ?_⟩, q⟩
  show Value.int (((bs.map Value.bool).toArray.toList.countP (isBoolOf k) : Nat) : Int) s.toks = Value.int ((bs.count k : Nat) : Int) s.toks
  rw [ec]
theorem mt_indexB : MtR X "list.index" (fun x xs H Q => ∃ (p : Addr) (bs : List Bool) (k : Bool) (j : Nat), x = .ref p ∧ xs = [.bl k] ∧ SqL X.K H p (bs.map V.bl) ∧ bs.length ≤ 1000 ∧ bs[j]? = some k ∧ (∀ m, m < j → bs[m]? ≠ some k) ∧ Q (.int (j : Nat)) H) := by
  intro pins s σ H x xs v us Q I rx rxs h
  obtain ⟨p, bs, k, j, rfl, rfl, hs, hz, hj, hno, q⟩ := h
  cases rx
  obtain ⟨u, rfl, ru⟩ := rxs.one
  cases ru
  obtain ⟨its, rv, ⟨⟨cls, dd, data, sl⟩, n, ho, hc, hdn, hd⟩, hlen⟩ := I.list hs
  simp only at hc hd
  subst hc hd
  have hi := bools_vals rv
  subst hi
  have hjl : j < bs.length := (List.getElem?_eq_some_iff.mp hj).1
  have sz : (bs.map Value.bool).toArray.size = bs.length := by simp
  have at_ : ∀ (m : Nat) (hm : m < (bs.map Value.bool).toArray.size), (bs.map Value.bool).toArray[m] = .bool (bs[m]'(by simpa using hm)) := fun m hm => by simp
  refine call_meets PySem.F.slot_list_index ⟨_, ho, rfl⟩ PySem.F.entry_list_index (PySem.F.args_list_index_2 _ _)
    (SeqAt.list_indexAt p _ n dd sl (.bool k) (isBoolOf k) j (by rw [sz]; exact hjl) (by omega) ?_ fun m hm hmj => ?_) ⟨ho, fun y hy => eqB k (bs := bs) (by simpa using hy) _ _, ?_⟩
  · rw [at_]
    have := (List.getElem?_eq_some_iff.mp hj).2
    rw [this]
    show (k == k) = true
    simp
  · rw [at_]
    have hm' : m < bs.length := by omega
    have := hno m hmj
    rw [List.getElem?_eq_getElem hm'] at this
    show (bs[m] == k) = false
    exact beq_eq_false_iff_ne.mpr fun z => this (by rw [z])
  · exact ⟨.int (j : Nat), H, I.tok _, ⟨s.toks, rfl⟩, q⟩
end
end DL
set_option maxHeartbeats 4000000
/-! EX4: the word of a caught error. -/
namespace DL
open PySem PySem.Spec PyProof.Rows L2

def spW (G : Gx) (hs : List (Str × Wd)) : Addr × Obj → Hp → VK → Prop := fun p H Q => ∃ O c C fl dd x v w, G.ca c = some (C, fl) ∧ Zc (.ref C) (some dd) p.2 ∧ (∃ vs, p.2.data = .fields vs) ∧ H dd = some (.xd [(fl, v)]) ∧ Rep G (cut H O) v x ∧ wordD hs c x = some w ∧
  ∀ v' H', Same H H' → Rep G (cut H' O) v' w → Q v' H'
/-- what the text says of the classes that may be raised -/
structure WordK (K : PySem.W.Frag) (mg : Str → Option Value) (G : Gx) (ns : List Str) : Prop where
  cls : ∀ c C fl, G.ca c = some (C, fl) → ExcC K C ∧ PySem.W.findIn K (.ref C) fl = some none ∧ (∀ n ∈ ns, ∃ D, mg n = some (.ref D) ∧ PySem.W.kitOne K (.ref C) (.ref D) = some (decide (n = c))) ∧ PySem.W.kitOne K (.ref C) (.type "ValueError") = some true
theorem str_rep {G : Gx} {H : Hp} {v : V} {s : Str} (r : Rep G H v (.str s)) : v = .str s := by
  cases r; rfl
theorem int_rep {G : Gx} {H : Hp} {v : V} {i : Int} (r : Rep G H v (.int i)) : v = .int i := by
  cases r; rfl
theorem same_new2 {H : Hp} {a b : Addr} {o u : HO} (ha : H a = none) (hb : upd H a o b = none) : Same H (upd (upd H a o) b u) := fun c x h => by
  have h1 : c ≠ a := fun z => by rw [z, ha] at h; cases h
  have h2 : c ≠ b := fun z => by rw [z] at h h1; rw [upd_ne h1, h] at hb; cases hb
  rw [upd_ne h2, upd_ne h1]
  exact h

/-- `_law_word`: item, argument, paper, or the text's place -/
theorem word1 {P : Program} {w : World} {K : PySem.W.Frag} {mg : Str → Option Value} {base : Heap} {G : Gx} {x qual : Str} {st : Stmt} {f : Addr} {fd : FuncData}
    (F : Fun K x qual st f fd) (S : FnScope ["error", "heads", "found"] ["error"] (defScope st)) (hb : Binds K fd ["error"] [])
    (W : WordK K mg G ["ItemError", "ArgumentError", "PaperError", "TextError"]) (hca : ∀ c C fl, G.ca c = some (C, fl) → fl = if c = ("TextError" : Str) then ("at" : Str) else if c = ("CommandError" : Str) then ("line" : Str) else ("reason" : Str))
    (mi : mg "isinstance" = none) (mv : mg "ValueError" = none) (bv : bootBuiltins "ValueError" = some (.type "ValueError"))
    (le : (defScope st).names.lookup ("error" : Str) = some .local) (lh : (defScope st).names.lookup ("heads" : Str) = some .local) (lf : (defScope st).names.lookup ("found" : Str) = some .local)
    (gi : (defScope st).names.lookup ("isinstance" : Str) = some .globalImplicit) (g0 : (defScope st).names.lookup ("ItemError" : Str) = some .globalImplicit) (g1 : (defScope st).names.lookup ("ArgumentError" : Str) = some .globalImplicit)
    (g2 : (defScope st).names.lookup ("PaperError" : Str) = some .globalImplicit) (g3 : (defScope st).names.lookup ("TextError" : Str) = some .globalImplicit) (gv : (defScope st).names.lookup ("ValueError" : Str) = some .globalImplicit)
    {p1 p2 p3 p4 p5 p6 p7 p8 p9 p10 p11 p12 p13 p14 p15 p16 p17 p18 p19 p20 p21 p22 p23 p24 p25 p26 p27 p28 p29 p30 p31 p32 p33 p34 p35 p36 p37 p38 p39 p40 p41 p42 p43 p44 p45 p46 p47 p48 p49 p50 p51 p52 p53 p54 p55 p56 : Pos}
    (hbody : defBody st = [
      .Assign [.Name "heads" p1] (.List [.Constant (.str "item ") 0 p2, .Constant (.str "argument ") 0 p3, .Constant (.str "paper ") 0 p4] p5) p6,
      .Assign [.Name "found" p7] (.List [.Call (.Name "isinstance" p8) [.Name "error" p9, .Name "ItemError" p10] [] p11, .Call (.Name "isinstance" p12) [.Name "error" p13, .Name "ArgumentError" p14] [] p15,
        .Call (.Name "isinstance" p16) [.Name "error" p17, .Name "PaperError" p18] [] p19, .Call (.Name "isinstance" p20) [.Name "error" p21, .Name "TextError" p22] [] p23] p24) p25,
      .If (.BoolOp .Or [.Compare (.Call (.Attribute (.Name "found" p26) "count" p27) [.Constant (.bool true) 0 p28] [] p29) [.NotEq] [.Constant (.int 1) 0 p30] p31,
          .UnaryOp .Not (.Call (.Name "isinstance" p32) [.Name "error" p33, .Name "ValueError" p34] [] p35) p36] p37)
        [.Return (some (.Constant (.str "other") 0 p38)) p39] [] p40,
      .Return (some (.IfExp (.Subscript (.Name "found" p41) (.Constant (.int 3) 0 p42) p43) (.Attribute (.Name "error" p44) "at" p45)
        (.BinOp (.Subscript (.Name "heads" p46) (.Call (.Attribute (.Name "found" p47) "index" p48) [.Constant (.bool true) 0 p49] [] p50) p51) .Add (.Attribute (.Name "error" p52) "reason" p53) p54) p55)) p56])
    (hl1 : (p27.endLine == p29.line) = true) (hl2 : (p48.endLine == p50.line) = true) :
    FnW P w K mg base f (spW G [("ItemError", .pre "item "), ("ArgumentError", .pre "argument "), ("PaperError", .pre "paper "), ("TextError", .self)]) := by
  refine fnw_of F S hb fun cdv A outer s H Q p room ⟨O, c, C, fl, dd, x, v, w', hc, hz, hf, hH, rx, hw, hq⟩ => ?_
  obtain ⟨T, hno, hns, hve⟩ := W.cls c C fl hc
  obtain ⟨D0, m0, k0⟩ := hns "ItemError" (by simp)
  obtain ⟨D1, m1, k1⟩ := hns "ArgumentError" (by simp)
  obtain ⟨D2, m2, k2⟩ := hns "PaperError" (by simp)
  obtain ⟨D3, m3, k3⟩ := hns "TextError" (by simp)
  rw [hbody]
  generalize eX : L2H.cxH CX0 P w K mg base ["error", "heads", "found"] qual (defScope st) f cdv A outer s H (fun _ _ _ => False) p = X
  have xN : X.N = [("error" : Str), "heads", "found"] := by rw [← eX]; rfl
  have xs : X.env.scope = defScope st := by rw [← eX]; rfl
  have xK : X.K = K := by rw [← eX]; rfl
  have xm : X.mg = mg := by rw [← eX]; rfl
  have xp : (p.1, p.2) ∈ X.pn := by rw [← eX]; exact List.mem_cons_self
  have nd : X.N.Nodup := by rw [xN]; exact S.nd
  have ve : Vis X.env.scope "error" := .inl (by rw [xs]; exact le)
  have vh : Vis X.env.scope "heads" := .inl (by rw [xs]; exact lh)
  have vf : Vis X.env.scope "found" := .inl (by rw [xs]; exact lf)
  have e0 : ∀ {q : Pos}, PE X (.Name "error" q) (tVar 0) := fun {q} => pe_var (by rw [xN]; rfl) ve
  have eh : ∀ {q : Pos}, PE X (.Name "heads" q) (tVar 1) := fun {q} => pe_var (by rw [xN]; rfl) vh
  have ef : ∀ {q : Pos}, PE X (.Name "found" q) (tVar 2) := fun {q} => pe_var (by rw [xN]; rfl) vf
  have is_ : ∀ {n : Str} {D : Addr} {q1 q2 q3 q4 : Pos}, (defScope st).names.lookup n = some .globalImplicit → mg n = some (.ref D) → (n == ("__debug__" : Str)) = false →
      PE X (.Call (.Name "isinstance" q1) [.Name "error" q2, .Name n q3] [] q4) (fun σ H Q => σ[0]? = some (some (.ref p.1)) ∧ ∃ (b : Bool) (fs : List (Str × V)), PySem.W.kitOne K (.ref C) (.ref D) = some b ∧ H dd = some (.xd fs) ∧ Q (.bl b) H) := fun {n D q1 q2 q3 q4} g m hd => by
    refine (pe_callB (call_isP (X := X) (xK ▸ T) xp hz hf) (show X.env.scope.names.lookup _ = _ by rw [xs]; exact gi) (by rw [xm]; exact mi) boot_isinstance (pa_cons e0 (pa_cons (pe_glob (v := .ref D) (u := .ref D) (show X.env.scope.names.lookup _ = _ by rw [xs]; exact g) (by rw [xm]; exact m) rfl hd) pa_nil))).weak fun σ H Q z => ?_
    obtain ⟨z1, b, fs, z2, z3, z4⟩ := z
    exact ⟨.ref p.1, z1, .ref D, .ref D, b, fs, rfl, fun u hu => hu, by rw [xK]; exact z2, z3, z4⟩
  have isv : ∀ {q1 q2 q3 q4 : Pos}, PE X (.Call (.Name "isinstance" q1) [.Name "error" q2, .Name "ValueError" q3] [] q4) (fun σ H Q => σ[0]? = some (some (.ref p.1)) ∧ ∃ (fs : List (Str × V)), H dd = some (.xd fs) ∧ Q (.bl true) H) := fun {q1 q2 q3 q4} => by
    refine (pe_callB (call_isP (X := X) (xK ▸ T) xp hz hf) (show X.env.scope.names.lookup _ = _ by rw [xs]; exact gi) (by rw [xm]; exact mi) boot_isinstance (pa_cons e0 (pa_cons (pe_bltn (v := .ty "ValueError") (show X.env.scope.names.lookup _ = _ by rw [xs]; exact gv) (by rw [xm]; exact mv) bv rfl) pa_nil))).weak fun σ H Q z => ?_
    obtain ⟨z1, fs, z3, z4⟩ := z
    exact ⟨.ref p.1, z1, .ty "ValueError", .type "ValueError", true, fs, rfl, fun u hu => hu, by rw [xK]; exact hve, z3, z4⟩
  have fld : ∀ {n : Str} {q q' : Pos}, attributeBase (.Name "error" q) n X.env (eval (.Name "error" q) X.env) = eval (.Name "error" q) X.env → PE X (.Attribute (.Name "error" q) n q') (fun σ H Q => n = fl ∧ σ[0]? = some (some (.ref p.1)) ∧ ∃ (fs : List (Str × V)) (v : V), H dd = some (.xd fs) ∧ fs.lookup fl = some v ∧ Q v H) := fun {n q q'} hb => by
    refine ⟨fun pins s1 σ H1 Q1 I ⟨hn, z1, fs, v, z2, z3, z4⟩ => ?_⟩
    subst hn
    exact (pe_xfP (X := X) (xK ▸ T) (by rw [xK]; exact hno) xp hz hf e0 hb).run pins s1 σ H1 Q1 I ⟨.ref p.1, z1, rfl, fs, v, z2, z3, z4⟩
  have st1 := ps_set (pos' := p1) (pos := p6) (X := X) (i := 1) (x := "heads") nd (by rw [xN]; rfl) (.inl (by rw [xs]; exact lh)) (pe_lst (pos := p5) (pa_cons (pe_str (x := "item ") (j := 0) (pos := p2)) (pa_cons (pe_str (x := "argument ") (j := 0) (pos := p3)) (pa_cons (pe_str (x := "paper ") (j := 0) (pos := p4)) pa_nil)))) rfl (.inr (by rw [xs]; exact lh))
  have st2 := ps_set (pos' := p7) (pos := p25) (X := X) (i := 2) (x := "found") nd (by rw [xN]; rfl) (.inl (by rw [xs]; exact lf)) (pe_lst (pos := p24) (pa_cons (is_ (q1 := p8) (q2 := p9) (q3 := p10) (q4 := p11) g0 m0 (by decide)) (pa_cons (is_ (q1 := p12) (q2 := p13) (q3 := p14) (q4 := p15) g1 m1 (by decide)) (pa_cons (is_ (q1 := p16) (q2 := p17) (q3 := p18) (q4 := p19) g2 m2 (by decide)) (pa_cons (is_ (q1 := p20) (q2 := p21) (q3 := p22) (q4 := p23) g3 m3 (by decide)) pa_nil))))) rfl (.inr (by rw [xs]; exact lf))
  have cnt : PE X (.Call (.Attribute (.Name "found" p26) "count" p27) [.Constant (.bool true) 0 p28] [] p29) _ :=
    pe_bm PySem.F.plainAttrs_list PySem.F.slot_list_count PySem.F.type_list_count mt_countB ef (pa_cons pe_bl pa_nil) rfl rfl hl1
  have idx : PE X (.Call (.Attribute (.Name "found" p47) "index" p48) [.Constant (.bool true) 0 p49] [] p50) _ :=
    pe_bm PySem.F.plainAttrs_list PySem.F.slot_list_index PySem.F.type_list_index mt_indexB ef (pa_cons pe_bl pa_nil) rfl rfl hl2
  have st3 := ps_if (pos := p40) (X := X) (pw_or (pos := p37) (pt_cmpR (pos := p31) op_ne cnt (pe_int (i := 1) (j := 0) (pos := p30)) rfl) (pw_or1 (pt_not (pos := p36) (pt_val (isv (q1 := p32) (q2 := p33) (q3 := p34) (q4 := p35)))))).pt (pss_one (ps_ret (pos := p39) (pe_str (x := "other") (j := 0) (pos := p38)))) pss_nil
  have st4 := ps_ret (pos := p56) (pe_ifExp (pos := p55) (pt_val (pe_ix (pos := p43) ix_list (ef (q := p41)) (pe_int (i := 3) (j := 0) (pos := p42)) (fun _ _ => rfl))) (fld (n := "at") (q := p44) (q' := p45) rfl)
    (pe_op (pos := p54) op_add_str (pe_ix (pos := p51) ix_list (eh (q := p46)) idx (fun _ _ => rfl)) (fld (n := "reason") (q := p52) (q' := p53) rfl)))
  refine ⟨_, pss_cons st1 (pss_cons st2 (pss_cons st3 (pss_one st4))), ?_⟩
  refine ⟨by show 3 ≤ sizeLine; decide, fun L1 h1 => ?_⟩
  have hd1 : upd H L1 (.lst [.str "item ", .str "argument ", .str "paper "]) dd = some (.xd [(fl, v)]) := by rw [upd_ne (ne_of_none hH h1)]; exact hH
  refine ⟨rfl, _, _, k0, hd1, rfl, _, _, k1, hd1, rfl, _, _, k2, hd1, rfl, _, _, k3, hd1, by show 4 ≤ sizeLine; decide, fun L2 h2 => ?_⟩
  have hd2 : upd (upd H L1 (.lst [.str "item ", .str "argument ", .str "paper "])) L2 (.lst [.bl (decide (("ItemError" : Str) = c)), .bl (decide (("ArgumentError" : Str) = c)), .bl (decide (("PaperError" : Str) = c)), .bl (decide (("TextError" : Str) = c))]) dd = some (.xd [(fl, v)]) := by rw [upd_ne (ne_of_none hd1 h2)]; exact hd1
  have h12 : L1 ≠ L2 := fun z => by rw [← z, upd_same] at h2; cases h2
  have sm := same_new2 (u := .lst [.bl (decide (("ItemError" : Str) = c)), .bl (decide (("ArgumentError" : Str) = c)), .bl (decide (("PaperError" : Str) = c)), .bl (decide (("TextError" : Str) = c))]) h1 h2
  generalize eH : upd (upd H L1 (.lst [.str "item ", .str "argument ", .str "paper "])) L2 (.lst [.bl (decide (("ItemError" : Str) = c)), .bl (decide (("ArgumentError" : Str) = c)), .bl (decide (("PaperError" : Str) = c)), .bl (decide (("TextError" : Str) = c))]) = H2 at hd2 sm ⊢
  have a1 : H2 L1 = some (.lst [.str "item ", .str "argument ", .str "paper "]) := by rw [← eH, upd_ne h12, upd_same]
  have a2 : H2 L2 = some (.lst ([decide (("ItemError" : Str) = c), decide (("ArgumentError" : Str) = c), decide (("PaperError" : Str) = c), decide (("TextError" : Str) = c)].map V.bl)) := by rw [← eH, upd_same]; rfl
  clear eH
  have rep2 : ∀ {v' : V}, Rep G (cut H O) v' w' → Rep G (cut H2 O) v' w' := fun {v'} r => r.mono fun b o z => by
    obtain ⟨z1, z2⟩ := cut_some.mp z
    exact cut_some.mpr ⟨z1, sm b o z2⟩
  have fin : ∀ v', Rep G (cut H O) v' w' → Q v' H2 := fun v' r => hq v' H2 sm (rep2 r)
  have hfl := hca c C fl hc
  have lk : ([(fl, v)] : List (Str × V)).lookup fl = some v := by simp [List.lookup]
  have key : ∀ bs : List Bool, bs = [decide (("ItemError" : Str) = c), decide (("ArgumentError" : Str) = c), decide (("PaperError" : Str) = c), decide (("TextError" : Str) = c)] →
      bs.length = 4 ∧ ((bs.count true = 1 ∧ ((bs[3]? = some true ∧ ("at" : Str) = fl ∧ w' = x) ∨ (bs[3]? = some false ∧ ∃ (j : Nat) (hd t : Str), bs[j]? = some true ∧ (∀ m, m < j → bs[m]? ≠ some true) ∧ [V.str "item ", V.str "argument ", V.str "paper "][j]? = some (V.str hd) ∧ x = .str t ∧ ("reason" : Str) = fl ∧ hd.length + t.length ≤ 100000 ∧ w' = .str (hd ++ t)))) ∨
        (bs.count true = 0 ∧ w' = .str "other")) := by
    intro bs hbs
    have pre : ∀ {h : Str}, (Wd.pre h).run x = some w' → ∃ t, x = .str t ∧ h.length + t.length ≤ 100000 ∧ w' = .str (h ++ t) := fun {h} e => by
      cases x with
      | str t =>
        have e' : (if h.length + t.length ≤ 100000 then some (D.str (h ++ t)) else none) = some w' := e
        split at e'
        · rename_i hl
          cases e'
          exact ⟨t, rfl, hl, rfl⟩
        · cases e'
      | _ => cases e
    by_cases c0 : ("ItemError" : Str) = c
    · subst c0
      have hb' : bs = [true, false, false, false] := hbs.trans (by decide)
      obtain ⟨t, e1, e2, e3⟩ := pre (h := "item ") hw
      subst hb'
      exact ⟨rfl, .inl ⟨rfl, .inr ⟨rfl, 0, _, t, rfl, fun m hm => absurd hm (Nat.not_lt_zero _), rfl, e1, hfl.symm, e2, e3⟩⟩⟩
    by_cases c1 : ("ArgumentError" : Str) = c
    · subst c1
      have hb' : bs = [false, true, false, false] := hbs.trans (by decide)
      obtain ⟨t, e1, e2, e3⟩ := pre (h := "argument ") hw
      subst hb'
      exact ⟨rfl, .inl ⟨rfl, .inr ⟨rfl, 1, _, t, rfl, fun m hm => by
        obtain rfl : m = 0 := by omega
        simp, rfl, e1, hfl.symm, e2, e3⟩⟩⟩
    by_cases c2 : ("PaperError" : Str) = c
    · subst c2
      have hb' : bs = [false, false, true, false] := hbs.trans (by decide)
      obtain ⟨t, e1, e2, e3⟩ := pre (h := "paper ") hw
      subst hb'
      exact ⟨rfl, .inl ⟨rfl, .inr ⟨rfl, 2, _, t, rfl, fun m hm => by
        rcases (by omega : m = 0 ∨ m = 1) with rfl | rfl <;> simp, rfl, e1, hfl.symm, e2, e3⟩⟩⟩
    by_cases c3 : ("TextError" : Str) = c
    · subst c3
      have hb' : bs = [false, false, false, true] := hbs.trans (by decide)
      have e1 : x = w' := Option.some.inj hw
      subst hb'
      exact ⟨rfl, .inl ⟨rfl, .inl ⟨rfl, hfl.symm, e1.symm⟩⟩⟩
    have hb' : bs = [false, false, false, false] := by
      rw [hbs]
      simp [c0, c1, c2, c3]
    have hn : wordD [("ItemError", .pre "item "), ("ArgumentError", .pre "argument "), ("PaperError", .pre "paper "), ("TextError", .self)] c x = some (.str "other") := by
      unfold wordD
      have n0 : (c == ("ItemError" : Str)) = false := by simpa using fun z => c0 z.symm
      have n1 : (c == ("ArgumentError" : Str)) = false := by simpa using fun z => c1 z.symm
      have n2 : (c == ("PaperError" : Str)) = false := by simpa using fun z => c2 z.symm
      have n3 : (c == ("TextError" : Str)) = false := by simpa using fun z => c3 z.symm
      simp only [List.lookup, n0, n1, n2, n3]
    rw [hn] at hw
    subst hb'
    exact ⟨rfl, .inr ⟨rfl, (Option.some.inj hw).symm⟩⟩
  obtain ⟨b4, key⟩ := key _ rfl
  generalize [decide (("ItemError" : Str) = c), decide (("ArgumentError" : Str) = c), decide (("PaperError" : Str) = c), decide (("TextError" : Str) = c)] = bs at a2 b4 key
  have sq2 : SqL X.K H2 L2 (bs.map V.bl) := SqL.of a2
  have sq1 : SqL X.K H2 L1 [V.str "item ", V.str "argument ", V.str "paper "] := SqL.of a1
  have ty2 : tyV X.K "list" (.ref L2) H2 := .inl ⟨rfl, _, sq2⟩
  rcases key with ⟨k1, key⟩ | ⟨k0, key⟩
  · refine ⟨.ref L2, rfl, ty2, L2, bs, true, rfl, rfl, sq2, ?_⟩
    refine ⟨rfl, false, by rw [k1]; rfl, ?_⟩
    dsimp only
    rw [if_neg Bool.false_ne_true]
    refine ⟨rfl, _, hd2, true, rfl, ?_⟩
    dsimp only
    rw [if_neg (show ¬ ((!true) = true) from Bool.false_ne_true)]
    rcases key with ⟨b3, e1, e2⟩ | ⟨b3, j, hd, t, e1, e2, e3, e4, e5, e6, e7⟩
    · refine ⟨.ref L2, rfl, L2, _, 3, .bl true, rfl, rfl, sq2, atI_nat (by rw [List.getElem?_map, b3]; rfl), true, rfl, ?_⟩
      dsimp only
      rw [if_pos rfl]
      exact ⟨e1, rfl, _, v, hd2, lk, fin v (e2 ▸ rx)⟩
    · refine ⟨.ref L2, rfl, L2, _, 3, .bl false, rfl, rfl, sq2, atI_nat (by rw [List.getElem?_map, b3]; rfl), false, rfl, ?_⟩
      dsimp only
      rw [if_neg Bool.false_ne_true]
      refine ⟨.ref L1, rfl, .ref L2, rfl, ty2, L2, bs, true, j, rfl, rfl, sq2, by omega, e1, e2, L1, _, (j : Int), _, rfl, rfl, sq1, atI_nat e3, e5, rfl, _, v, hd2, lk, hd, t, rfl, ?_, ?_, ?_⟩
      · rw [e4] at rx; exact str_rep rx
      · have : (100000 : Nat) ≤ sizeLine := by decide
        omega
      · exact fin _ (e7 ▸ .str _)
  · refine ⟨.ref L2, rfl, ty2, L2, bs, true, rfl, rfl, sq2, ?_⟩
    refine ⟨rfl, true, by rw [k0]; rfl, ?_⟩
    dsimp only
    rw [if_pos rfl]
    rw [if_pos rfl]
    exact fin _ (key ▸ .str _)
end DL
namespace DL
open PySem L2

/-- what the place knows -/
structure CalOk (X : Cx) (P : Pm) (k : Nat) (F : Fn) (f : FnS) : Prop where
  at_ : ∃ a, X.mg f.name = some (.ref a) ∧ PySem.W.keepIn X.K (.ref a) = true ∧ P.G.fa f.name = some a ∧ FnG X.prog X.w X.K X.mg X.base k a f.mask.length (spF P.G f.mask F)
/-- a written dict's entries -/
inductive EntRel : List DictEntry → List (Str × Int) → Prop
  | nil : EntRel [] []
  | cons {e : DictEntry} {es : List DictEntry} {x : Str} {i : Int} {kvs : List (Str × Int)} : (∃ t, e.key = .str x t) → (∃ t, e.val = .int i t) → EntRel es kvs → EntRel (e :: es) ((x, i) :: kvs)
/-- at a: a written dict, texts to whole numbers -/
structure WD (K : PySem.W.Frag) (w : World) (a : Addr) (kvs : List (Str × Int)) : Prop where
  ex : ∃ es n, KDict K w a es n ∧ EntRel es.toList kvs
/-- an error of the class c with its field fl may be raised -/
structure RaiseAt (P : Program) (w : World) (K : PySem.W.Frag) (mg : Str → Option Value) (base : Heap) (G : Gx) (c fl : Str) : Prop where
  ex : ∃ (C fI : Addr) (fd : FuncData) (r : Str) (txt : TX), G.ca c = some (C, fl) ∧ mg c = some (.ref C) ∧ OexC K C ∧ PySem.W.findIn K (.ref C) "__init__" = some (some (.ref fI)) ∧ PySem.W.typeIn K (.ref fI) = some (.type "function") ∧
    FnOk P w K mg base DL.CX0 0 fI fd [("self" : Str), r] (spI C fl txt) ∧ Binds K fd [("self" : Str), r] [] ∧ txt.len 10000 ≤ sizeLine
/-- what is said of a caught error -/
structure WordAt (P : Program) (w : World) (K : PySem.W.Frag) (mg : Str → Option Value) (base : Heap) (G : Gx) (nm : Str) (hs : List (Str × Wd)) : Prop where
  fn : ∃ f, mg nm = some (.ref f) ∧ PySem.W.keepIn K (.ref f) = true ∧ FnW P w K mg base f (spW G hs) ∧ ∃ fd, Binds K fd [("error" : Str)] []
  cls : ∃ CS, mg "SetError" = some (.ref CS) ∧ ∀ c C fl, G.ca c = some (C, fl) → PySem.W.exmOne K (.ref C) (.ref CS) = some true
structure Ok (X : Cx) (W : WX) (P : Pm) (Γ : Ctx) (Φ : Nat → Fn) (k : Nat) : Prop where
  N : X.N = Γ.N
  nd : Γ.N.Nodup
  sc : X.env.scope = Γ.sc
  fn : ∀ x, Γ.fn x = true → X.fn x = true
  calm : X.calm = true
  gd : X.A.guards = some []
  room : Room k X.A
  K : P.G.K = X.K
  tk : Takes X W
  po : PassesOwn (model X.prog X.w) X.A X.env X.xe
  bs : ∀ x, Γ.bs.contains x = true → X.mg x = none
  cs : ∀ x d, Γ.cs.lookup x = some d → ∃ u v, X.mg x = some u ∧ RelV v u ∧ ∀ H, Rep P.G H v d
  ds : ∀ x kvs, Γ.ds.lookup x = some kvs → ∃ a, X.mg x = some (.ref a) ∧ WD X.K X.w a kvs
  fs : ∀ (i : Nat) (f : FnS), Γ.fs[i]? = some f → CalOk X P k (Φ i) f
  k1 : 1 ≤ k
  stk : Γ.wd.isSome = true → X.stack = X.env :: X.outer ∧ X.env.frame = some X.env.locals
  xs : ∀ c fl, Γ.xs.lookup c = some fl → RaiseAt X.prog X.w X.K X.mg X.base P.G c fl
  wd : ∀ nm hs, Γ.wd = some (nm, hs) → WordAt X.prog X.w X.K X.mg X.base P.G nm hs
section
variable {X : Cx} {W : WX} {P : Pm} {Γ : Ctx} {Φ : Nat → Fn} {k : Nat}
theorem Ok.un (ok : Ok X W P Γ Φ k) : X.A.units + 70 < cLine := by have := ok.room.un; omega
theorem Ok.pm (ok : Ok X W P Γ Φ k) {P' : Pm} (h : P'.G = P.G) : Ok X W P' Γ Φ k :=
  ⟨ok.N, ok.nd, ok.sc, ok.fn, ok.calm, ok.gd, ok.room, by rw [h]; exact ok.K, ok.tk, ok.po, ok.bs, fun x d e => by rw [h]; exact ok.cs x d e, ok.ds, fun i f e => ⟨by
    obtain ⟨a, h1, h2, h3, h4⟩ := (ok.fs i f e).at_
    exact ⟨a, h1, h2, by rw [h]; exact h3, by rw [h]; exact h4⟩⟩, ok.k1, ok.stk, fun c fl e => by rw [h]; exact ok.xs c fl e, fun nm hs e => by rw [h]; exact ok.wd nm hs e⟩
abbrev W0 : WX := fun _ _ _ _ => False
theorem Ok.blk (ok : Ok X W P Γ Φ k) (scope : Scope) (s : Shared) (H : Hp) (C : Addr) (cl : List (Str × Addr)) (fp : List Addr) : Ok (X.blk s H scope (compEnvC scope cl C X.env) fp) W0 P (Γ.blk scope) Φ k :=
  ⟨ok.N, ok.nd, by show relS scope X.env.scope = _; rw [ok.sc]; rfl, fun x h => h, ok.calm, ok.gd, ok.room, ok.K, takes0, PassesOwn.never, ok.bs, ok.cs, ok.ds, fun i f e => ⟨(ok.fs i f e).at_⟩, ok.k1, fun z => (Bool.false_ne_true z).elim, fun c fl e => (by cases e), fun nm hs e => (by cases e)⟩
theorem Ok.glob (ok : Ok X W P Γ Φ k) {x : Str} (h : Γ.gl x = true) : Gl X x ∧ (x == ("__debug__" : Str)) = false ∧ x ≠ "__name__" := by
  unfold Ctx.gl at h
  simp only [Bool.and_eq_true, Bool.not_eq_true'] at h
  refine ⟨?_, h.1.2, fun e => ?_⟩
  · show X.env.scope.names.lookup x = _
    rw [ok.sc]
    have h1 := h.1.1
    split at h1
    · assumption
    · cases h1
  · have := h.2
    rw [e] at this
    revert this; decide
theorem Ok.vis (ok : Ok X W P Γ Φ k) {x : Str} (h : Γ.vis x = true) : Vis X.env.scope x := by
  unfold Ctx.vis at h
  unfold Vis
  rw [ok.sc]
  split at h
  · left; assumption
  · right; left; assumption
  · right; right; assumption
  · cases h
theorem Ok.bi (ok : Ok X W P Γ Φ k) {x : Str} (h : Γ.bi x = true) : Gl X x ∧ (x == ("__debug__" : Str)) = false ∧ x ≠ "__name__" ∧ X.mg x = none := by
  unfold Ctx.bi at h
  rw [Bool.and_eq_true] at h
  obtain ⟨h1, h2, h3⟩ := ok.glob h.1
  exact ⟨h1, h2, h3, ok.bs x h.2⟩

/-! ### names, written values -/
abbrev tT (P : Pm) (W : WX) (Φ : Nat → Fn) (c : E) : TT := tB P W fun ρ => tru (rel (ev Φ c ρ))
theorem pe_lit {e : Expr} {v : V} {d : D} (h : PE X e (tC v)) (r : ∀ H, Rep P.G H v d) : PE X e (tE P W Φ (.lit d)) := h.weak fun σ H Q ⟨O, ρ, R, a⟩ => Aft.now (P := P) (W := W) (α := Slot) a R v (r _)
theorem Rel.look {P : Pm} {O : List Addr} {ρ : Sts} {σ : St} {H : Hp} (R : Rel P O ρ σ H) {i : Nat} {s : Slot} (h : ρ[i]? = some s) (hs : s ≠ .emp) : ∃ v, σ[i]? = some (some v) := by
  cases s with
  | emp => exact absurd rfl hs
  | val d => obtain ⟨v, h1, _⟩ := R.val i d h; exact ⟨v, h1⟩
  | own d => obtain ⟨v, h1, _⟩ := R.own i d h; exact ⟨_, h1⟩
  | io d => obtain ⟨v, h1, _⟩ := R.io i d h; exact ⟨_, h1⟩
/-- a name as an operand: lent, or let known -/
theorem name_arg {e : Expr} {i : Nat} (h : PE X e (tVar i)) : PE X e (tArg P W fun ρ => bw (.var i) ρ (rel (ev Φ (.var i) ρ))) := h.weak fun σ H Q ⟨O, ρ, R, a⟩ => by
  show ∃ v, σ[i]? = some (some v) ∧ Q v H
  replace a : Aft P W σ O H (if isOwn ρ i then .ok (.ref i, ρ) else (rel (getv ρ i)).map fun p => (Arg.dat p.1, p.2)) fun a ρ' O' H' => ∀ v, ArgAt P σ O' H' v a → Q v H' := a
  split at a
  · rename_i c
    unfold isOwn at c
    obtain ⟨d, hd⟩ := Option.isSome_iff_exists.mp c
    obtain ⟨b, h1, _⟩ := R.mu hd
    exact ⟨_, h1, Aft.now a R _ h1⟩
  · rename_i c
    unfold getv at a
    split at a
    · rename_i d e1
      obtain ⟨v, h1, h2⟩ := R.val i d e1
      exact ⟨v, h1, Aft.now (P := P) (W := W) (α := Arg) a R v h2⟩
    · rename_i d e1
      exact absurd (by unfold isOwn; rw [e1]; rfl) c
    · exact a.elim
theorem name_e {e : Expr} {i : Nat} (h : PE X e (tVar i)) : PE X e (tE P W Φ (.var i)) := h.weak fun σ H Q ⟨O, ρ, R, a⟩ => by
  show ∃ v, σ[i]? = some (some v) ∧ Q v H
  replace a : Aft P W σ O H (getv ρ i) fun s ρ' O' H' => ∀ v, RepR P O' ρ' σ H' v s → Q v H' := a
  unfold getv at a
  split at a
  · rename_i d e1
    obtain ⟨v, h1, h2⟩ := R.val i d e1
    exact ⟨v, h1, Aft.now (P := P) (W := W) (α := Slot) a R v h2⟩
  · rename_i d e1
    obtain ⟨O', v, R', x, h1, h2⟩ := R.free e1
    exact ⟨v, h1, a O' H R' x v h2⟩
  · exact a.elim
theorem isEmpty_reps {G : Gx} {H : Hp} {vs : List V} {ds : List D} (r : Reps G H vs ds) : ds.isEmpty = vs.isEmpty := by
  cases r <;> rfl
theorem truV {G : Gx} {H : Hp} {v : V} {d : D} {b : Bool} (hK : G.K = X.K) (r : Rep G H v d) (h : truth d = some b) : TruV X.K v H b := by
  have hs : sizeLine = 16777216 := sizeLine_eq
  cases r with
  | non => cases h; rfl
  | bl c => cases h; rfl
  | int i => cases h; rfl
  | str z =>
    replace h : (if z.length ≤ Line then some (z.length != 0) else none) = some b := h
    split at h
    · rename_i c
      cases h
      refine ⟨by rw [hs]; exact c, ?_⟩
      rw [Bool.eq_iff_iff]; simp
    · cases h
  | lst q r =>
    cases h
    exact .inl ⟨_, .of q, by rw [isEmpty_reps r]⟩
  | tup q r =>
    cases h
    exact .inr (.inl ⟨_, hK ▸ q, by rw [isEmpty_reps r]⟩)
  | dic q r =>
    cases h
    refine .inr (.inr ⟨_, q, ?_⟩)
    cases r <;> rfl
  | rol q r => cases h
  | fn _ => cases h
  | ty _ => cases h
theorem val_rd {c : E} {σ : St} {H : Hp} {Q : Bool → Hp → Prop} (hK : P.G.K = X.K) (h : tT P W Φ c σ H Q) : tV P W (fun ρ => rel (ev Φ c ρ)) σ H fun v H' => ∃ b, TruV X.K v H' b ∧ Q b H' := by
  obtain ⟨O, ρ, Z, a⟩ := h
  refine ⟨O, ρ, Z, ?_⟩
  have a2 : Aft P W σ O H ((rel (ev Φ c ρ)).bind fun p => match truth p.1 with
    | some b => .ok (b, p.2)
    | none => .bad) fun b ρ' O' H' => Q b H' := a
  refine a2.bind.imp fun d ρ1 O1 H1 R1 _ q v rv => ?_
  dsimp only at q
  split at q
  · rename_i b hb
    exact ⟨b, truV hK rv.full hb, Aft.now q R1⟩
  · exact q.elim
/-- truth by the value -/
theorem pt_val' {e : Expr} {c : E} (hK : P.G.K = X.K) (h : PE X e (tE P W Φ c)) (he : ∀ whole, isTrue e X.env whole = (do let v ← whole; standAt e.pos; holding [v] (truthy v))) : PT X e (tT P W Φ c) :=
  (pt_truth (tV_of h) he).weak fun σ H Q h => val_rd hK h
theorem tst_eq {i : Nat} {ρ : Sts} : tru (rel (ev Φ (tstE (.var i)) ρ)) = (bw (.var i) ρ (rel (ev Φ (.var i) ρ))).bind fun p => (opR .tru ([p.1], p.2)).bind fun q => match truth q.1.d with
    | some b => .ok (b, q.2)
    | none => .bad := by
  show tru (rel (((bw (.var i) ρ (rel (ev Φ (.var i) ρ))).bind fun p => (evBs Φ [] p.2).map fun q => (p.1 :: q.1, q.2)).bind (opR .tru))) = _
  cases bw (.var i) ρ (rel (ev Φ (.var i) ρ)) with
  | exc _ _ _ => rfl
  | bad => rfl
  | ok p =>
    show tru (rel (opR .tru ([p.1], p.2))) = (opR .tru ([p.1], p.2)).bind _
    cases opR .tru ([p.1], p.2) <;> rfl
theorem tst_rd {i : Nat} {σ : St} {H : Hp} {Q : Bool → Hp → Prop} (hK : P.G.K = X.K) (h : tT P W Φ (tstE (.var i)) σ H Q) : tArg P W (fun ρ => bw (.var i) ρ (rel (ev Φ (.var i) ρ))) σ H fun v H' => ∃ b, TruV X.K v H' b ∧ Q b H' := by
  obtain ⟨O, ρ, Z, a⟩ := h
  refine ⟨O, ρ, Z, ?_⟩
  dsimp only at a
  rw [tst_eq] at a
  refine a.bind.imp fun ar ρ1 O1 H1 R1 _ q v rv => ?_
  dsimp only at q
  unfold opR at q
  split at q
  · rename_i ds hds
    have rx := args_get R1 (.cons rv .nil) hds
    obtain ⟨w, ew, hw⟩ : ∃ d, ds = [d] ∧ RepX P.G O1 H1 v d := by
      cases rx with
      | cons h r => cases r; exact ⟨_, rfl, h⟩
    subst ew
    cases ht : truth w with
    | none =>
      have e : opf .tru [w] = none := by show b1 (truth w) = none; rw [ht]; rfl
      rw [e] at q; exact q.elim
    | some b =>
      have e : opf .tru [w] = some (.val (.bl b)) := by show b1 (truth w) = _; rw [ht]; rfl
      rw [e] at q
      exact ⟨b, truV hK hw.full ht, Aft.now (P := P) (W := W) (α := Bool) q R1⟩
  · exact q.elim
/-- a name asked for its truth -/
theorem pt_name {x : Str} {p : Pos} {i : Nat} (hK : P.G.K = X.K) (h : PE X (.Name x p) (tVar i)) : PT X (.Name x p) (tT P W Φ (tstE (.var i))) :=
  (pt_truth (name_arg (P := P) (W := W) (Φ := Φ) h) (fun _ => rfl)).weak fun σ H Q h => tst_rd hK h
end
end DL
namespace DL
open PySem L2
section
variable {X : Cx} {W : WX} {P : Pm} {Φ : Nat → Fn} {σ : St} {H : Hp}
theorem tArg.imp {r : Sts → R Sts (Arg × Sts)} {Q Q' : VK} (h : tArg P W r σ H Q) (k : ∀ v H', Q v H' → Q' v H') : tArg P W r σ H Q' := by
  obtain ⟨O, ρ, R, a⟩ := h
  exact ⟨O, ρ, R, a.imp fun _ _ _ _ _ _ q v rv => k _ _ (q v rv)⟩
theorem tV.imp {r : Sts → R Sts (D × Sts)} {Q Q' : VK} (h : tV P W r σ H Q) (k : ∀ v H', Q v H' → Q' v H') : tV P W r σ H Q' := by
  obtain ⟨O, ρ, R, a⟩ := h
  exact ⟨O, ρ, R, a.imp fun _ _ _ _ _ _ q v rv => k _ _ (q v rv)⟩
/-- an operand -/
abbrev argR (Φ : Nat → Fn) (c : E) : Sts → R Sts (Arg × Sts) := fun ρ => bw c ρ (rel (ev Φ c ρ))
theorem arg_of {e : Expr} {c : E} (h : PE X e (tE P W Φ c)) (hv : ∀ i, c = .var i → PE X e (tVar i)) : PE X e (tArg P W (argR Φ c)) := by
  by_cases hc : ∃ i, c = .var i
  · obtain ⟨i, rfl⟩ := hc
    exact name_arg (hv i rfl)
  · refine (tV_of h).weak fun σ H Q ⟨O, ρ, R, a⟩ => ⟨O, ρ, R, ?_⟩
    have e : argR Φ c ρ = (rel (ev Φ c ρ)).map fun p => (Arg.dat p.1, p.2) := by
      unfold argR bw
      cases c with
      | var i => exact absurd ⟨i, rfl⟩ hc
      | _ => rfl
    rw [e] at a
    exact (Aft.map (f := fun p : D × Sts => (Arg.dat p.1, p.2)) (fun _ => rfl) a).imp fun d _ _ _ _ _ q v rv => q v rv
/-- .. and its name -/
structure Snd (X : Cx) (P : Pm) (W : WX) (Φ : Nat → Fn) (e : Expr) (c : E) : Prop where
  pe : PE X e (tE P W Φ c)
  nm : ∀ i, c = .var i → PE X e (tVar i)
theorem Snd.arg {e : Expr} {c : E} (h : Snd X P W Φ e c) : PE X e (tArg P W (argR Φ c)) := arg_of h.pe h.nm
theorem Snd.v {e : Expr} {c : E} (h : Snd X P W Φ e c) : PE X e (tV P W fun ρ => rel (ev Φ c ρ)) := tV_of h.pe
theorem args2 {a b : E} {Q : List V → Hp → Prop} (h : tArgs P W (fun ρ => evBs Φ [a, b] ρ) σ H Q) : tArg P W (argR Φ a) σ H fun x H1 => tArg P W (argR Φ b) σ H1 fun y H2 => Q [x, y] H2 :=
  (args_cons h).imp fun _ _ h1 => (args_cons h1).imp fun _ _ h2 => args_nil h2
theorem args1 {a : E} {Q : List V → Hp → Prop} (h : tArgs P W (fun ρ => evBs Φ [a] ρ) σ H Q) : tArg P W (argR Φ a) σ H fun x H1 => Q [x] H1 :=
  (args_cons h).imp fun _ _ h1 => args_nil h1
variable {a b c : Expr} {ca cb cc : E} {pos : Pos}
theorem pe_bin {o : Operator} (hK : P.G.K = X.K) (ha : Snd X P W Φ a ca) (hb : Snd X P W Φ b cb) : PE X (.BinOp a o b pos) (tE P W Φ (.op (.bin o) [ca, cb])) :=
  (pe_op (opr_bin hK) ha.arg hb.arg).weak fun σ H Q h => args2 (op_args h)
theorem pe_neg (ha : Snd X P W Φ a ca) : PE X (.UnaryOp .USub a pos) (tE P W Φ (.op .neg [ca])) :=
  (pe_un un_neg ha.arg).weak fun σ H Q h => (args1 (op_args h)).imp fun v H1 h => by
    obtain ⟨O, ds, sl, hr, od, hg, q⟩ := h
    obtain ⟨x, d, e, rfl, h1, hg⟩ := hr.get1 hg (len1 (fun _ _ _ => by simp [opf]) rfl)
    cases e
    cases d with
    | int i => cases hg; exact ⟨i, h1.int, q _ _ (.vl (.int _))⟩
    | _ => cases hg
theorem not_marks {o : CmpOp} {b : Expr} (h : isDisp b = false) : behindInMarks o b = false := by
  cases b <;> first | rfl | cases h
theorem pe_cmpD {o : CmpOp} (hK : P.G.K = X.K) (hu : X.A.units + 70 < cLine) (hd : isDisp b = false) (ha : Snd X P W Φ a ca) (hb : Snd X P W Φ b cb) : PE X (.Compare a [o] [b] pos) (tE P W Φ (.op (.cmp o) [ca, cb])) :=
  (pe_cmpR (opr_cmp hK (by omega)) ha.arg hb.arg (not_marks hd)).weak fun σ H Q h => args2 (op_args h)
/-- the answer of a comparison is a truth value -/
theorem tru_bl {r : R Sts (Slot × Sts)} {O : List Addr} {ρ : Sts} {Q : Bool → Hp → Prop} (hr : ∀ p, r = .ok p → ∃ b, p.1 = .val (.bl b)) (h : Aft P W σ O H (tru (rel r)) fun b ρ' O' H' => Q b H') : Aft P W σ O H r fun s ρ' O' H' => ∀ v, RepR P O' ρ' σ H' v s → ∃ k, v = V.bl k ∧ Q k H' := by
  cases r with
  | ok p =>
    obtain ⟨b, hb⟩ := hr p rfl
    obtain ⟨s, ρ'⟩ := p
    cases hb
    intro O' H' R x v rv
    have rv' : Rep P.G (cut H' O') v (.bl b) := rv
    cases rv'
    exact ⟨b, rfl, h O' H' R x⟩
  | exc _ _ _ => exact h
  | bad => exact h
theorem op_bl {o : Op} (ho : ∀ ds s, opf o ds = some s → ∃ b, s = .val (.bl b)) {es : List E} {ρ : Sts} {p : Slot × Sts} (h : ev Φ (.op o es) ρ = .ok p) : ∃ b, p.1 = .val (.bl b) := by
  replace h : (evBs Φ es ρ).bind (opR o) = .ok p := h
  cases e : evBs Φ es ρ with
  | ok q =>
    rw [e] at h
    replace h : opR o q = .ok p := h
    unfold opR at h
    split at h
    · rename_i ds _
      cases f : opf o ds with
      | none => rw [f] at h; cases h
      | some s =>
        rw [f] at h
        cases h
        exact ho ds s f
    · cases h
  | exc _ _ _ => rw [e] at h; cases h
  | bad => rw [e] at h; cases h
theorem cmp_bl {o : CmpOp} : ∀ ds s, opf (.cmp o) ds = some s → ∃ b, s = .val (.bl b)
  | [], _, h => by cases h
  | [_], _, h => by simp [opf] at h
  | [a, b], _, h => by
    obtain ⟨x, _, e⟩ := b1_some (show b1 (cmpf o a b) = some _ from h)
    exact ⟨x, e⟩
  | _ :: _ :: _ :: _, _, h => by simp [opf] at h
theorem pt_cmpD {o : CmpOp} (hK : P.G.K = X.K) (hu : X.A.units + 70 < cLine) (hd : isDisp b = false) (ha : Snd X P W Φ a ca) (hb : Snd X P W Φ b cb) : PT X (.Compare a [o] [b] pos) (tT P W Φ (.op (.cmp o) [ca, cb])) :=
  (pt_cmpR (opr_cmp hK (by omega)) ha.arg hb.arg (not_marks hd)).weak fun σ H Q ⟨O, ρ, R, h⟩ => args2 (op_args (P := P) (W := W) (Φ := Φ) (Q := fun v H' => ∃ k, v = V.bl k ∧ Q k H') ⟨O, ρ, R, tru_bl (ρ := ρ) (fun p e => op_bl cmp_bl e) h⟩)
/-- comparisons of known values -/
def rC (G : Gx) (o : CmpOp) : R2 := fun x y H Q => ∃ O dx dy b, Rep G (cut H O) x dx ∧ Rep G (cut H O) y dy ∧ cmpf o dx dy = some b ∧ Q (.bl b) H
theorem opr_rC {o : CmpOp} (hK : P.G.K = X.K) (hu : X.A.units + 70 < cLine) : OpR X (compareOp o) (rC P.G o) := (opr_cmp0 (G := P.G) hK (by omega)).wk fun x y H Q ⟨O, dx, dy, b, h1, h2, e, q⟩ =>
  ⟨O, dx, dy, b, .inl h1, .inl h2, e, q⟩
theorem chain_marks {o o2 : CmpOp} {b c : Expr} (h : plainCmp o2 = true) : lastMarks [o, o2] [b, c] = false := by
  show behindInMarks o2 c = false
  exact nobehind c (by rintro rfl; cases h) (by rintro rfl; cases h)
/-- a op b op2 c, up to the end -/
theorem chain_rd {o o2 : CmpOp} {Q : VK} (h : tE P W Φ (.chain ca o cb o2 cc) σ H Q) :
    tChain (rC P.G o) (rC P.G o2) (tV P W fun ρ => rel (ev Φ ca ρ)) (tV P W fun ρ => rel (ev Φ cb ρ)) (tV P W fun ρ => rel (ev Φ cc ρ)) σ H Q := by
  obtain ⟨O, ρ, Z, a⟩ := h
  have a1 : Aft P W σ O H ((rel (ev Φ ca ρ)).bind fun p => (rel (ev Φ cb p.2)).bind fun q => match cmpf o p.1 q.1 with
    | some true => (rel (ev Φ cc q.2)).bind fun r => (R.ofO (cmpf o2 q.1 r.1)).map fun x => (.val (.bl x), r.2)
    | some false => .ok (.val (.bl false), q.2)
    | none => .bad) fun s ρ' O' H' => ∀ v, RepR P O' ρ' σ H' v s → Q v H' := a
  refine ⟨O, ρ, Z, a1.bind.imp fun dx ρ1 O1 H1 R1 e1 q1 v hv => ⟨O1, ρ1, R1, (Aft.bind q1).imp fun dy ρ2 O2 H2 R2 e2 q2 u hu => ?_⟩⟩
  dsimp only at q2
  have hv2 := e2.rep hv
  cases hc : cmpf o dx dy with
  | none => rw [hc] at q2; exact q2.elim
  | some k =>
    rw [hc] at q2
    refine ⟨O2, dx, dy, k, hv2, hu, hc, k, rfl, ?_⟩
    cases k with
    | false =>
      rw [if_neg Bool.false_ne_true]
      exact Aft.now (P := P) (W := W) (α := Slot) q2 R2 _ (.bl false)
    | true =>
      rw [if_pos rfl]
      refine ⟨O2, ρ2, R2, (Aft.bind q2).imp fun dz ρ3 O3 H3 R3 e3 q3 z hz => ?_⟩
      dsimp only at q3
      cases hc2 : cmpf o2 dy dz with
      | none => rw [hc2] at q3; exact q3.elim
      | some k2 =>
        rw [hc2] at q3
        exact ⟨O3, dy, dz, k2, e3.rep hu, hz, hc2, Aft.now (P := P) (W := W) (α := Slot) q3 R3 _ (.bl k2)⟩
theorem pe_chainD {o o2 : CmpOp} (hK : P.G.K = X.K) (hu : X.A.units + 70 < cLine) (hp : plainCmp o2 = true) (ha : Snd X P W Φ a ca) (hb : Snd X P W Φ b cb) (hc : Snd X P W Φ c cc) : PE X (.Compare a [o, o2] [b, c] pos) (tE P W Φ (.chain ca o cb o2 cc)) :=
  (pe_chain (opr_rC hK hu) (opr_rC hK hu) ha.v hb.v hc.v (chain_marks hp)).weak fun σ H Q h => chain_rd h
theorem chain_bl {o o2 : CmpOp} {ρ : Sts} {p : Slot × Sts} (h : ev Φ (.chain ca o cb o2 cc) ρ = .ok p) : ∃ b, p.1 = .val (.bl b) := by
  replace h : ((rel (ev Φ ca ρ)).bind fun p => (rel (ev Φ cb p.2)).bind fun q => match cmpf o p.1 q.1 with
    | some true => (rel (ev Φ cc q.2)).bind fun r => (R.ofO (cmpf o2 q.1 r.1)).map fun x => (.val (.bl x), r.2)
    | some false => .ok (.val (.bl false), q.2)
    | none => .bad) = .ok p := h
  cases e1 : rel (ev Φ ca ρ) with
  | ok x =>
    rw [e1, R.bind_ok] at h
    cases e2 : rel (ev Φ cb x.2) with
    | ok y =>
      rw [e2, R.bind_ok] at h
      split at h
      · cases e3 : rel (ev Φ cc y.2) with
        | ok z =>
          rw [e3, R.bind_ok] at h
          cases e4 : cmpf o2 y.1 z.1 with
          | some k => rw [e4] at h; cases h; exact ⟨k, rfl⟩
          | none => rw [e4] at h; cases h
        | exc _ _ _ => rw [e3] at h; cases h
        | bad => rw [e3] at h; cases h
      · cases h; exact ⟨false, rfl⟩
      · cases h
    | exc _ _ _ => rw [e2] at h; cases h
    | bad => rw [e2] at h; cases h
  | exc _ _ _ => rw [e1] at h; cases h
  | bad => rw [e1] at h; cases h
theorem pt_chainD {o o2 : CmpOp} (hK : P.G.K = X.K) (hu : X.A.units + 70 < cLine) (hp : plainCmp o2 = true) (ha : Snd X P W Φ a ca) (hb : Snd X P W Φ b cb) (hc : Snd X P W Φ c cc) : PT X (.Compare a [o, o2] [b, c] pos) (tT P W Φ (.chain ca o cb o2 cc)) :=
  (pt_chain (opr_rC hK hu) (opr_rC hK hu) ha.v hb.v hc.v (chain_marks hp)).weak fun σ H Q ⟨O, ρ, R, h⟩ => chain_rd (Q := fun v H' => ∃ k, v = V.bl k ∧ Q k H') ⟨O, ρ, R, tru_bl (ρ := ρ) (fun p e => chain_bl e) h⟩

/-! chains of three -/
theorem chain_marks3 {o o2 o3 : CmpOp} {b c d : Expr} (h : plainCmp o3 = true) : lastMarks [o, o2, o3] [b, c, d] = false := by
  have := chain_marks (o := o) (o2 := o3) (b := b) (c := d) h
  exact this
def tChain3 (r r' r'' : R2) (ta tb tc td : TE) : TE := fun σ H Q => ta σ H fun x H1 => tb σ H1 fun y H2 => r x y H2 fun z H3 => ∃ k, z = .bl k ∧
  (if k = true then tc σ H3 fun w' H4 => r' y w' H4 fun z2 H5 => ∃ k2, z2 = .bl k2 ∧ (if k2 = true then td σ H5 fun u' H6 => r'' w' u' H6 Q else Q (.bl false) H5) else Q (.bl false) H3)
section
variable {d : Expr} {cd : E}
theorem pe_chain3 {op op' op'' : CmpOp} {r r' r'' : R2} {ta tb tc td : TE} (ho : OpR X (compareOp op) r) (ho' : OpR X (compareOp op') r') (ho'' : OpR X (compareOp op'') r'') (ha : PE X a ta) (hb : PE X b tb) (hc : PE X c tc) (hd : PE X d td)
    (hm : lastMarks [op, op', op''] [b, c, d] = false) : PE X (.Compare a [op, op', op''] [b, c, d] pos) (tChain3 r r' r'' ta tb tc td) := by
  refine ⟨fun pins s σ H Q I h => ?_⟩
  refine PyProof.Rows.Compare_chain (thn (ha.run pins s σ H _ I h) fun v s1 ⟨x, H1, I1, r1, q1⟩ => PyProof.Rows.chain_link (thn (hb.run pins s1 σ H1 _ I1 q1) fun u s2 ⟨y, H2, I2, r2, q2⟩ =>
    thn (ho pins s2 σ H2 x y v u _ I2 r1 r2 q2) fun z0 s3 ⟨z, H3, I3, r3, k, e, q3⟩ => ?_)) hm
  subst e
  cases r3
  refine wpAny_truthy_bool ?_
  cases k with
  | false => exact PyProof.Rows.ite_ff ⟨.bl false, H3, I3, rfl, q3⟩
  | true =>
    refine PyProof.Rows.ite_tt (PyProof.Rows.chain_link (thn (hc.run pins s3 σ H3 _ I3 q3) fun w' s4 ⟨z', H4, I4, r4, q4⟩ => thn (ho' pins s4 σ H4 y z' u w' _ I4 r2 r4 q4) fun z1 s5 ⟨z2, H5, I5, r5, k2, e2, q5⟩ => ?_))
    subst e2
    cases r5
    refine wpAny_truthy_bool ?_
    cases k2 with
    | false => exact PyProof.Rows.ite_ff ⟨.bl false, H5, I5, rfl, q5⟩
    | true => exact PyProof.Rows.ite_tt (PyProof.Rows.chain_last (thn (hd.run pins s5 σ H5 _ I5 q5) fun w2 s6 ⟨z3, H6, I6, r6, q6⟩ => ho'' pins s6 σ H6 z' z3 w' w2 Q I6 r4 r6 q6))
theorem pt_chain3 {op op' op'' : CmpOp} {r r' r'' : R2} {ta tb tc td : TE} (ho : OpR X (compareOp op) r) (ho' : OpR X (compareOp op') r') (ho'' : OpR X (compareOp op'') r'') (ha : PE X a ta) (hb : PE X b tb) (hc : PE X c tc) (hd : PE X d td)
    (hm : lastMarks [op, op', op''] [b, c, d] = false) : PT X (.Compare a [op, op', op''] [b, c, d] pos) (tTest (tChain3 r r' r'' ta tb tc td)) := by
  refine ⟨fun pins s σ H Q I h => ?_⟩
  refine PyProof.Rows.isTrue_chain (thn (ha.run pins s σ H _ I h) fun v s1 ⟨x, H1, I1, r1, q1⟩ => PyProof.Rows.test_link (thn (hb.run pins s1 σ H1 _ I1 q1) fun u s2 ⟨y, H2, I2, r2, q2⟩ =>
    thn (ho pins s2 σ H2 x y v u _ I2 r1 r2 q2) fun z0 s3 ⟨z, H3, I3, r3, k, e, q3⟩ => ?_)) hm
  subst e
  cases r3
  refine wpAny_truthy_bool ?_
  cases k with
  | false =>
    obtain ⟨k', e', q'⟩ := q3
    cases e'
    exact PyProof.Rows.ite_ff ⟨H3, I3, q'⟩
  | true =>
    refine PyProof.Rows.ite_tt (PyProof.Rows.test_link (thn (hc.run pins s3 σ H3 _ I3 q3) fun w' s4 ⟨z', H4, I4, r4, q4⟩ => thn (ho' pins s4 σ H4 y z' u w' _ I4 r2 r4 q4) fun z1 s5 ⟨z2, H5, I5, r5, k2, e2, q5⟩ => ?_))
    subst e2
    cases r5
    refine wpAny_truthy_bool ?_
    cases k2 with
    | false =>
      obtain ⟨k', e', q'⟩ := q5
      cases e'
      exact PyProof.Rows.ite_ff ⟨H5, I5, q'⟩
    | true =>
      refine PyProof.Rows.ite_tt (PyProof.Rows.test_last (thn (hd.run pins s5 σ H5 _ I5 q5) fun w2 s6 ⟨z3, H6, I6, r6, q6⟩ => thn (ho'' pins s6 σ H6 z' z3 w' w2 _ I6 r4 r6 q6) fun z4 s7 ⟨z5, H7, I7, r7, k3, e3, q7⟩ => ?_))
      subst e3
      cases r7
      exact wpAny_truthy_bool ⟨H7, I7, q7⟩
theorem chain3_rd {o o2 o3 : CmpOp} {Q : VK} (h : tE P W Φ (.chain3 ca o cb o2 cc o3 cd) σ H Q) :
    tChain3 (rC P.G o) (rC P.G o2) (rC P.G o3) (tV P W fun ρ => rel (ev Φ ca ρ)) (tV P W fun ρ => rel (ev Φ cb ρ)) (tV P W fun ρ => rel (ev Φ cc ρ)) (tV P W fun ρ => rel (ev Φ cd ρ)) σ H Q := by
  obtain ⟨O, ρ, Z, a⟩ := h
  have a1 : Aft P W σ O H ((rel (ev Φ ca ρ)).bind fun p => (rel (ev Φ cb p.2)).bind fun q => match cmpf o p.1 q.1 with
    | some true => (rel (ev Φ cc q.2)).bind fun r => (match cmpf o2 q.1 r.1 with
      | some true => (rel (ev Φ cd r.2)).bind fun u => (R.ofO (cmpf o3 r.1 u.1)).map fun x => (.val (.bl x), u.2)
      | some false => .ok (.val (.bl false), r.2)
      | none => .bad)
    | some false => .ok (.val (.bl false), q.2)
    | none => .bad) fun s ρ' O' H' => ∀ v, RepR P O' ρ' σ H' v s → Q v H' := a
  refine ⟨O, ρ, Z, a1.bind.imp fun dx ρ1 O1 H1 R1 e1 q1 v hv => ⟨O1, ρ1, R1, (Aft.bind q1).imp fun dy ρ2 O2 H2 R2 e2 q2 u hu => ?_⟩⟩
  dsimp only at q2
  have hv2 := e2.rep hv
  cases hc : cmpf o dx dy with
  | none => rw [hc] at q2; exact q2.elim
  | some k =>
    rw [hc] at q2
    refine ⟨O2, dx, dy, k, hv2, hu, hc, k, rfl, ?_⟩
    cases k with
    | false =>
      rw [if_neg Bool.false_ne_true]
      exact Aft.now (P := P) (W := W) (α := Slot) q2 R2 _ (.bl false)
    | true =>
      rw [if_pos rfl]
      refine ⟨O2, ρ2, R2, (Aft.bind q2).imp fun dz ρ3 O3 H3 R3 e3 q3 z hz => ?_⟩
      dsimp only at q3
      cases hc2 : cmpf o2 dy dz with
      | none => rw [hc2] at q3; exact q3.elim
      | some k2 =>
        rw [hc2] at q3
        refine ⟨O3, dy, dz, k2, e3.rep hu, hz, hc2, k2, rfl, ?_⟩
        cases k2 with
        | false =>
          rw [if_neg Bool.false_ne_true]
          exact Aft.now (P := P) (W := W) (α := Slot) q3 R3 _ (.bl false)
        | true =>
          rw [if_pos rfl]
          refine ⟨O3, ρ3, R3, (Aft.bind q3).imp fun dw ρ4 O4 H4 R4 e4 q4 z4 hz4 => ?_⟩
          dsimp only at q4
          cases hc3 : cmpf o3 dz dw with
          | none => rw [hc3] at q4; exact q4.elim
          | some k3 =>
            rw [hc3] at q4
            exact ⟨O4, dz, dw, k3, e4.rep hz, hz4, hc3, Aft.now (P := P) (W := W) (α := Slot) q4 R4 _ (.bl k3)⟩
theorem pe_chain3D {o o2 o3 : CmpOp} (hK : P.G.K = X.K) (hu : X.A.units + 70 < cLine) (hp : plainCmp o3 = true) (ha : Snd X P W Φ a ca) (hb : Snd X P W Φ b cb) (hc : Snd X P W Φ c cc) (hd : Snd X P W Φ d cd) : PE X (.Compare a [o, o2, o3] [b, c, d] pos) (tE P W Φ (.chain3 ca o cb o2 cc o3 cd)) :=
  (pe_chain3 (opr_rC hK hu) (opr_rC hK hu) (opr_rC hK hu) ha.v hb.v hc.v hd.v (chain_marks3 hp)).weak fun σ H Q h => chain3_rd h
theorem chain3_bl {o o2 o3 : CmpOp} {ρ : Sts} {p : Slot × Sts} (h : ev Φ (.chain3 ca o cb o2 cc o3 cd) ρ = .ok p) : ∃ b, p.1 = .val (.bl b) := by
  replace h : ((rel (ev Φ ca ρ)).bind fun p => (rel (ev Φ cb p.2)).bind fun q => match cmpf o p.1 q.1 with
    | some true => (rel (ev Φ cc q.2)).bind fun r => (match cmpf o2 q.1 r.1 with
      | some true => (rel (ev Φ cd r.2)).bind fun u => (R.ofO (cmpf o3 r.1 u.1)).map fun x => (.val (.bl x), u.2)
      | some false => .ok (.val (.bl false), r.2)
      | none => .bad)
    | some false => .ok (.val (.bl false), q.2)
    | none => .bad) = .ok p := h
  obtain ⟨x, e1, h⟩ := bind_okR h
  obtain ⟨y, e2, h⟩ := bind_okR h
  split at h
  · obtain ⟨z, e3, h⟩ := bind_okR h
    split at h
    · obtain ⟨u, e4, h⟩ := bind_okR h
      cases e5 : cmpf o3 z.1 u.1 with
      | some k => rw [e5] at h; cases h; exact ⟨k, rfl⟩
      | none => rw [e5] at h; cases h
    · cases h; exact ⟨false, rfl⟩
    · cases h
  · cases h; exact ⟨false, rfl⟩
  · cases h
theorem pt_chain3D {o o2 o3 : CmpOp} (hK : P.G.K = X.K) (hu : X.A.units + 70 < cLine) (hp : plainCmp o3 = true) (ha : Snd X P W Φ a ca) (hb : Snd X P W Φ b cb) (hc : Snd X P W Φ c cc) (hd : Snd X P W Φ d cd) : PT X (.Compare a [o, o2, o3] [b, c, d] pos) (tT P W Φ (.chain3 ca o cb o2 cc o3 cd)) :=
  (pt_chain3 (opr_rC hK hu) (opr_rC hK hu) (opr_rC hK hu) ha.v hb.v hc.v hd.v (chain_marks3 hp)).weak fun σ H Q ⟨O, ρ, R, h⟩ => chain3_rd (Q := fun v H' => ∃ k, v = V.bl k ∧ Q k H') ⟨O, ρ, R, tru_bl (ρ := ρ) (fun p e => chain3_bl e) h⟩
end
/-! ### and, or, not, if -/
theorem tB.imp {r : Sts → R Sts (Bool × Sts)} {Q Q' : Bool → Hp → Prop} (h : tB P W r σ H Q) (k : ∀ v H', Q v H' → Q' v H') : tB P W r σ H Q' := by
  obtain ⟨O, ρ, R, a⟩ := h
  exact ⟨O, ρ, R, a.imp fun _ _ _ _ _ _ q => k _ _ q⟩
theorem tru_of {O : List Addr} {H : Hp} {ρ : Sts} {d : D} {Q : Bool → Hp → Prop} {k : Bool} (ht : truth d = some k) (h : Aft P W σ O H (tru (.ok (d, ρ))) fun b ρ' O' H' => Q b H') : Aft P W σ O H (.ok (k, ρ)) fun b ρ' O' H' => Q b H' := by
  have e : tru (.ok (d, ρ)) = .ok (k, ρ) := by
    show (match truth d with
      | some b => R.ok (b, ρ)
      | none => .bad) = _
    rw [ht]
  rw [e] at h; exact h
theorem pe_andD (hK : P.G.K = X.K) {r : List Expr} (ha : Snd X P W Φ a ca) (hb : PE X (.BoolOp .And (b :: r) pos) (tE P W Φ cb)) : PE X (.BoolOp .And (a :: b :: r) pos) (tE P W Φ (.and ca cb)) :=
  (pe_andT ha.v (tV_of hb)).weak fun σ H Q ⟨O, ρ, R, h⟩ => ⟨O, ρ, R, by
    have h1 : Aft P W σ O H ((rel (ev Φ ca ρ)).bind fun p => match truth p.1 with
      | some true => (rel (ev Φ cb p.2)).map fun q => (.val q.1, q.2)
      | some false => .ok (.val p.1, p.2)
      | none => .bad) fun s ρ' O' H' => ∀ v, RepR P O' ρ' σ H' v s → Q v H' := h
    refine h1.bind.imp fun d ρ1 O1 H1 R1 _ q v hv => ?_
    dsimp only at q
    split at q
    · rename_i ht
      refine ⟨true, truV hK hv.full ht, ?_⟩
      rw [if_pos rfl]
      exact ⟨O1, ρ1, R1, (Aft.map (f := fun q : D × Sts => (Slot.val q.1, q.2)) (fun _ => rfl) q)⟩
    · rename_i ht
      refine ⟨false, truV hK hv.full ht, ?_⟩
      rw [if_neg Bool.false_ne_true]
      exact Aft.now (P := P) (W := W) (α := Slot) q R1 v hv
    · exact q.elim⟩
theorem pe_orD (hK : P.G.K = X.K) {r : List Expr} (ha : Snd X P W Φ a ca) (hb : PE X (.BoolOp .Or (b :: r) pos) (tE P W Φ cb)) : PE X (.BoolOp .Or (a :: b :: r) pos) (tE P W Φ (.or ca cb)) :=
  (pe_orT ha.v (tV_of hb)).weak fun σ H Q ⟨O, ρ, R, h⟩ => ⟨O, ρ, R, by
    have h1 : Aft P W σ O H ((rel (ev Φ ca ρ)).bind fun p => match truth p.1 with
      | some true => .ok (.val p.1, p.2)
      | some false => (rel (ev Φ cb p.2)).map fun q => (.val q.1, q.2)
      | none => .bad) fun s ρ' O' H' => ∀ v, RepR P O' ρ' σ H' v s → Q v H' := h
    refine h1.bind.imp fun d ρ1 O1 H1 R1 _ q v hv => ?_
    dsimp only at q
    split at q
    · rename_i ht
      refine ⟨true, truV hK hv.full ht, ?_⟩
      rw [if_pos rfl]
      exact Aft.now (P := P) (W := W) (α := Slot) q R1 v hv
    · rename_i ht
      refine ⟨false, truV hK hv.full ht, ?_⟩
      rw [if_neg Bool.false_ne_true]
      exact ⟨O1, ρ1, R1, (Aft.map (f := fun q : D × Sts => (Slot.val q.1, q.2)) (fun _ => rfl) q)⟩
    · exact q.elim⟩
/-- tests: what their reading is -/
theorem tru_and {ρ : Sts} : tru (rel (ev Φ (.and ca cb) ρ)) = (tru (rel (ev Φ ca ρ))).bind fun p => if p.1 = true then tru (rel (ev Φ cb p.2)) else .ok (false, p.2) := by
  show tru (rel ((rel (ev Φ ca ρ)).bind fun p => match truth p.1 with
      | some true => (rel (ev Φ cb p.2)).map fun q => (Slot.val q.1, q.2)
      | some false => .ok (.val p.1, p.2)
      | none => .bad)) = _
  cases rel (ev Φ ca ρ) with
  | exc _ _ _ => rfl
  | bad => rfl
  | ok p =>
    obtain ⟨d, ρ1⟩ := p
    show tru (rel (match truth d with
      | some true => (rel (ev Φ cb ρ1)).map fun q => (Slot.val q.1, q.2)
      | some false => .ok (.val d, ρ1)
      | none => .bad)) = (match truth d with
      | some b => R.ok (b, ρ1)
      | none => .bad).bind _
    cases ht : truth d with
    | none => rfl
    | some k =>
      cases k with
      | true =>
        show tru (rel ((rel (ev Φ cb ρ1)).map fun q => (Slot.val q.1, q.2))) = tru (rel (ev Φ cb ρ1))
        cases rel (ev Φ cb ρ1) <;> rfl
      | false =>
        show (match truth d with
          | some b => R.ok (b, ρ1)
          | none => .bad) = .ok (false, ρ1)
        rw [ht]
theorem tru_or {ρ : Sts} : tru (rel (ev Φ (.or ca cb) ρ)) = (tru (rel (ev Φ ca ρ))).bind fun p => if p.1 = true then .ok (true, p.2) else tru (rel (ev Φ cb p.2)) := by
  show tru (rel ((rel (ev Φ ca ρ)).bind fun p => match truth p.1 with
      | some true => .ok (.val p.1, p.2)
      | some false => (rel (ev Φ cb p.2)).map fun q => (Slot.val q.1, q.2)
      | none => .bad)) = _
  cases rel (ev Φ ca ρ) with
  | exc _ _ _ => rfl
  | bad => rfl
  | ok p =>
    obtain ⟨d, ρ1⟩ := p
    show tru (rel (match truth d with
      | some true => .ok (.val d, ρ1)
      | some false => (rel (ev Φ cb ρ1)).map fun q => (Slot.val q.1, q.2)
      | none => .bad)) = (match truth d with
      | some b => R.ok (b, ρ1)
      | none => .bad).bind _
    cases ht : truth d with
    | none => rfl
    | some k =>
      cases k with
      | false =>
        show tru (rel ((rel (ev Φ cb ρ1)).map fun q => (Slot.val q.1, q.2))) = tru (rel (ev Φ cb ρ1))
        cases rel (ev Φ cb ρ1) <;> rfl
      | true =>
        show (match truth d with
          | some b => R.ok (b, ρ1)
          | none => .bad) = .ok (true, ρ1)
        rw [ht]
theorem tru_not {ρ : Sts} : tru (rel (ev Φ (notE ca) ρ)) = (tru (rel (ev Φ ca ρ))).map fun p => (!p.1, p.2) := by
  show tru (rel ((tru (rel (ev Φ ca ρ))).bind fun p => if p.1 then (rel (.ok (.val (.bl false), p.2))).map fun q => (Slot.val q.1, q.2) else (rel (.ok (.val (.bl true), p.2))).map fun q => (Slot.val q.1, q.2))) = _
  cases tru (rel (ev Φ ca ρ)) with
  | exc _ _ _ => rfl
  | bad => rfl
  | ok p =>
    obtain ⟨k, ρ1⟩ := p
    cases k <;> rfl
theorem pt_not' (ha : PT X a (tT P W Φ ca)) : PT X (.UnaryOp .Not a pos) (tT P W Φ (notE ca)) := (pt_not ha).weak fun σ H Q ⟨O, ρ, Z, h⟩ => ⟨O, ρ, Z, by
  dsimp only at h
  rw [tru_not] at h
  exact (Aft.map (f := fun p : Bool × Sts => (!p.1, p.2)) (fun _ => rfl) h)⟩
theorem pw_andD {r : List Expr} (ha : PT X a (tT P W Φ ca)) (hb : PW X (.BoolOp .And (b :: r) pos) (tT P W Φ cb)) : PW X (.BoolOp .And (a :: b :: r) pos) (tT P W Φ (.and ca cb)) :=
  ⟨fun whole pins s σ H Q I ⟨O, ρ, Z, h⟩ => (pw_and ha hb).run whole pins s σ H Q I ⟨O, ρ, Z, by
    dsimp only at h
    rw [tru_and] at h
    refine h.bind.imp fun k ρ1 O1 H1 R1 _ q => ?_
    dsimp only at q
    split at q
    · rename_i c; rw [if_pos c]; exact ⟨O1, ρ1, R1, q⟩
    · rename_i c; rw [if_neg c]; exact Aft.now (P := P) (W := W) (α := Bool) q R1⟩⟩
theorem pw_orD {r : List Expr} (ha : PT X a (tT P W Φ ca)) (hb : PW X (.BoolOp .Or (b :: r) pos) (tT P W Φ cb)) : PW X (.BoolOp .Or (a :: b :: r) pos) (tT P W Φ (.or ca cb)) :=
  ⟨fun whole pins s σ H Q I ⟨O, ρ, Z, h⟩ => (pw_or ha hb).run whole pins s σ H Q I ⟨O, ρ, Z, by
    dsimp only at h
    rw [tru_or] at h
    refine h.bind.imp fun k ρ1 O1 H1 R1 _ q => ?_
    dsimp only at q
    split at q
    · rename_i c; rw [if_pos c]; exact Aft.now (P := P) (W := W) (α := Bool) q R1
    · rename_i c; rw [if_neg c]; exact ⟨O1, ρ1, R1, q⟩⟩⟩
/-- not, as a value: isTrue's own way -/
theorem pe_ifD (ht : PT X a (tT P W Φ ca)) (hb : Snd X P W Φ b cb) (hc : Snd X P W Φ c cc) : PE X (.IfExp a b c pos) (tE P W Φ (.ife ca cb cc)) := (pe_ifExp ht hb.v hc.v).weak fun σ H Q ⟨O, ρ, Z, h⟩ => ⟨O, ρ, Z, by
  have h1 : Aft P W σ O H ((tru (rel (ev Φ ca ρ))).bind fun p => if p.1 then (rel (ev Φ cb p.2)).map fun q => (Slot.val q.1, q.2) else (rel (ev Φ cc p.2)).map fun q => (Slot.val q.1, q.2)) fun s ρ' O' H' => ∀ v, RepR P O' ρ' σ H' v s → Q v H' := h
  refine h1.bind.imp fun k ρ1 O1 H1 R1 _ q => ?_
  dsimp only at q
  cases k with
  | true =>
    rw [if_pos rfl] at q ⊢
    exact ⟨O1, ρ1, R1, (Aft.map (f := fun q : D × Sts => (Slot.val q.1, q.2)) (fun _ => rfl) q)⟩
  | false =>
    rw [if_neg Bool.false_ne_true] at q ⊢
    exact ⟨O1, ρ1, R1, (Aft.map (f := fun q : D × Sts => (Slot.val q.1, q.2)) (fun _ => rfl) q)⟩⟩
end
end DL
namespace DL
open PySem L2
section
variable {X : Cx} {W : WX} {P : Pm} {Φ : Nat → Fn} {σ : St} {H : Hp} {a b c : Expr} {ca cb cc : E} {pos : Pos}
theorem not_rd {Q : VK} (h : tE P W Φ (notE ca) σ H Q) : tT P W Φ ca σ H fun k H' => Q (.bl (!k)) H' := by
  obtain ⟨O, ρ, Z, h⟩ := h
  refine ⟨O, ρ, Z, ?_⟩
  have e : ev Φ (notE ca) ρ = (tru (rel (ev Φ ca ρ))).bind fun p => .ok (Slot.val (.bl (!p.1)), p.2) := by
    show ((tru (rel (ev Φ ca ρ))).bind fun p => if p.1 then (rel (.ok (.val (.bl false), p.2))).map fun q => (Slot.val q.1, q.2) else (rel (.ok (.val (.bl true), p.2))).map fun q => (Slot.val q.1, q.2)) = _
    cases tru (rel (ev Φ ca ρ)) with
    | exc _ _ _ => rfl
    | bad => rfl
    | ok p => obtain ⟨k, ρ1⟩ := p; cases k <;> rfl
  rw [e] at h
  exact h.bind.imp fun k ρ1 O1 H1 R1 _ q => Aft.now (P := P) (W := W) (α := Slot) q R1 _ (.bl _)
theorem pe_notD (hK : P.G.K = X.K) (ha : PE X a (tE P W Φ ca)) : PE X (.UnaryOp .Not a pos) (tE P W Φ (notE ca)) :=
  (pe_notT (tV_of ha)).weak fun σ H Q h => val_rd hK (not_rd h)
theorem pe_notN {i : Nat} (hK : P.G.K = X.K) (ha : PE X a (tVar i)) : PE X (.UnaryOp .Not a pos) (tE P W Φ (notE (tstE (.var i)))) :=
  (pe_notT (name_arg (P := P) (W := W) (Φ := Φ) ha)).weak fun σ H Q h => tst_rd hK (not_rd h)

/-! ### displays -/
theorem mk_args {o : Mk} {cs : List E} {Q : VK} (h : tE P W Φ (.mk o cs) σ H Q) : tVs P W (fun ρ => evVs Φ cs ρ) σ H fun vs H1 => ∃ O ds s, Reps P.G (cut H1 O) vs ds ∧ (∀ a ∈ O, ∃ o, H1 a = some o ∧ Mut (some o)) ∧ mkf o ds = some s ∧ ∀ v H', Res P.G O H1 v H' s → Q v H' := by
  obtain ⟨O, ρ, Z, a⟩ := h
  refine ⟨O, ρ, Z, ?_⟩
  have a2 : Aft P W σ O H ((evVs Φ cs ρ).bind fun p => (R.ofO (mkf o p.1)).map fun s => (s, p.2)) fun s ρ' O' H' => ∀ v, RepR P O' ρ' σ H' v s → Q v H' := a
  refine a2.bind.imp fun ds ρ1 O1 H1 R1 _ q vs hv => ?_
  dsimp only at q
  cases hm : mkf o ds with
  | none => rw [hm] at q; exact q.elim
  | some s =>
    rw [hm] at q
    refine ⟨O1, ds, s, hv, R1.odom, hm, fun v H' hr => ?_⟩
    obtain ⟨O2, R2, e2, r2⟩ := hr.post R1
    exact q O2 H' R2 e2 v r2
theorem tVs.imp {r : Sts → R Sts (List D × Sts)} {Q Q' : List V → Hp → Prop} (h : tVs P W r σ H Q) (k : ∀ v H', Q v H' → Q' v H') : tVs P W r σ H Q' := by
  obtain ⟨O, ρ, Z, a⟩ := h
  exact ⟨O, ρ, Z, a.imp fun _ _ _ _ _ _ q v rv => k _ _ (q v rv)⟩
theorem pe_tupD {es : List Expr} {cs : List E} {k1 : Nat} (h : PA X es (tVs P W fun ρ => evVs Φ cs ρ)) : PE X (.Tuple es k1 pos) (tE P W Φ (.mk .tup cs)) := (pe_tup h).weak fun σ H Q h => (mk_args h).imp fun vs H1 ⟨O, ds, s, r, od, hm, q⟩ => by
  have hs : sizeLine = 16777216 := sizeLine_eq
  replace hm : (if ds.length ≤ Line then some (Slot.val (.tup ds)) else none) = some s := hm
  split at hm
  · rename_i c
    cases hm
    exact ⟨by rw [hs, r.length]; exact c, fun p hp => q _ _ (.nt od hp r)⟩
  · cases hm
theorem pe_lstD {es : List Expr} {cs : List E} (h : PA X es (tVs P W fun ρ => evVs Φ cs ρ)) : PE X (.List es pos) (tE P W Φ (.mk .lst cs)) := (pe_lst h).weak fun σ H Q h => (mk_args h).imp fun vs H1 ⟨O, ds, s, r, od, hm, q⟩ => by
  have hs : sizeLine = 16777216 := sizeLine_eq
  replace hm : (if ds.length ≤ Line then some (Slot.own (.lst ds)) else none) = some s := hm
  split at hm
  · rename_i c
    cases hm
    exact ⟨by rw [hs, r.length]; exact c, fun p hp => q _ _ (.nl hp r)⟩
  · cases hm
/-- lists of compiled expressions -/
inductive SndL (X : Cx) (P : Pm) (W : WX) (Φ : Nat → Fn) : List Expr → List E → Prop
  | nil : SndL X P W Φ [] []
  | cons {e : Expr} {es : List Expr} {c : E} {cs : List E} : nst e = true → Snd X P W Φ e c → SndL X P W Φ es cs → SndL X P W Φ (e :: es) (c :: cs)
theorem SndL.len : ∀ {es : List Expr} {cs : List E}, SndL X P W Φ es cs → es.length = cs.length
  | _, _, .nil => rfl
  | _, _, .cons _ _ r => by simp [r.len]
theorem SndL.vs : ∀ {es : List Expr} {cs : List E}, SndL X P W Φ es cs → PA X es (tVs P W fun ρ => evVs Φ cs ρ)
  | _, _, .nil => pa_nil.weak fun σ H Q h => vs_nil h
  | _, _, .cons hn h r => (pa_consN hn h.v r.vs).weak fun σ H Q h => vs_cons h
theorem SndL.args : ∀ {es : List Expr} {cs : List E}, SndL X P W Φ es cs → PA X es (tArgs P W fun ρ => evBs Φ cs ρ)
  | _, _, .nil => pa_nil.weak fun σ H Q h => args_nil h
  | _, _, .cons hn h r => (pa_consN hn h.arg r.args).weak fun σ H Q h => args_cons h
/-- an argument of a call -/
theorem cw_arg {m : Bool} (h : Snd X P W Φ a ca) : PE X a (tArg P W fun ρ => cw m ca ρ (rel (ev Φ ca ρ))) := by
  cases m with
  | false =>
    refine h.v.weak fun σ H Q ⟨O, ρ, Z, q⟩ => ⟨O, ρ, Z, ?_⟩
    exact (Aft.map (f := fun p : D × Sts => (Arg.dat p.1, p.2)) (fun _ => rfl) q).imp fun d _ _ _ _ _ q v rv => q v rv
  | true =>
    by_cases hv : ∃ i, ca = .var i
    · obtain ⟨i, rfl⟩ := hv
      refine (h.nm i rfl).weak fun σ H Q ⟨O, ρ, Z, q⟩ => ?_
      replace q : Aft P W σ O H (if isOwn ρ i then .ok (.ref i, ρ) else .bad) fun a ρ' O' H' => ∀ v, ArgAt P σ O' H' v a → Q v H' := q
      split at q
      · rename_i c
        unfold isOwn at c
        obtain ⟨d, hd⟩ := Option.isSome_iff_exists.mp c
        obtain ⟨b, h1, _⟩ := Z.mu hd
        exact ⟨_, h1, Aft.now q Z _ h1⟩
      · exact q.elim
    · refine h.v.weak fun σ H Q ⟨O, ρ, Z, q⟩ => ?_
      have e : cw true ca ρ (rel (ev Φ ca ρ)) = .bad := by
        unfold cw
        cases ca with
        | var i => exact absurd ⟨i, rfl⟩ hv
        | _ => rfl
      dsimp only at q
      rw [e] at q
      exact q.elim
theorem SndL.cargs : ∀ {es : List Expr} {cs : List E} (m : List Bool), SndL X P W Φ es cs → PA X es (tArgs P W fun ρ => evCs Φ m cs ρ)
  | _, _, m, .nil => pa_nil.weak fun σ H Q h => cargs_nil h
  | _, _, m, .cons hn h r => (pa_consN hn (cw_arg h) (r.cargs m.tail)).weak fun σ H Q h => cargs_cons h
/-- the call of a def of the text -/
theorem pe_callD {Γ : Ctx} {k i : Nat} {x : Str} {p : Pos} {g : FnS} {es : List Expr} {cs : List E} (ok : Ok X W P Γ Φ k) (hf : fnIx Γ.fs x = some (i, g)) (hg : Γ.gl x = true) (hl : g.mask.length = es.length) (h : SndL X P W Φ es cs) :
    PE X (.Call (.Name x p) es [] pos) (tE P W Φ (.call i g.mask cs)) := by
  obtain ⟨h1, rfl⟩ := fnIx_at hf
  obtain ⟨f, q1, q2, q3, F⟩ := (ok.fs i g h1).at_
  obtain ⟨g1, g2, g3⟩ := ok.glob hg
  have hl' : g.mask.length = cs.length := by rw [hl]; exact h.len
  cases h with
  | nil =>
    refine (pe_callG0 F ok.gd ok.room g1 q1 q2 ok.tk g2).weak fun σ H Q h => ?_
    exact cargs_nil (call_args hl' h)
  | cons hn h r =>
    have hr : ∀ {es : List Expr} {cs : List E}, SndL X P W Φ es cs → es.all nst = true := fun {es cs} z => by
      induction z with
      | nil => rfl
      | cons a _ _ ih => rw [List.all_cons, a, ih]; rfl
    refine (pe_callG F ok.gd ok.room g1 q1 q2 ok.tk ⟨hn, hr r⟩ ((SndL.cons hn h r).cargs g.mask) g2).weak fun σ H Q h => call_args hl' h

theorem evCs_rep : ∀ {cs : List E} {n : Nat} {ρ : Sts}, evCs Φ [] cs ρ = evCs Φ (List.replicate n false) cs ρ
  | [], n, ρ => by simp [evCs]
  | c :: cs, n, ρ => by
    show ((cw ([] : List Bool).head?.isSome c ρ (rel (ev Φ c ρ))).bind fun p => (evCs Φ [] cs p.2).map fun q => (p.1 :: q.1, q.2)) = (cw ((List.replicate n false).headD false) c ρ (rel (ev Φ c ρ))).bind fun p => (evCs Φ (List.replicate n false).tail cs p.2).map fun q => (p.1 :: q.1, q.2)
    have h1 : (List.replicate n false).headD false = false := by cases n <;> rfl
    have h2 : (List.replicate n false).tail = List.replicate (n - 1) false := by cases n <;> rfl
    rw [h1, h2]
    show _ = (cw false c ρ (rel (ev Φ c ρ))).bind _
    congr 1
    funext p
    rw [evCs_rep (n := n - 1)]
/-- the call of a name that holds a def of the text -/
theorem pe_callV {Γ : Ctx} {k i : Nat} {x : Str} {p : Pos} {e : Expr} {es : List Expr} {cs : List E} (ok : Ok X W P Γ Φ k) (hv : Γ.vis x = true) (hd : (x == ("__debug__" : Str)) = false) (hcd : (x == ("__classdict__" : Str)) = false) (hi : ixOf Γ.N x = some i) (h : SndL X P W Φ (e :: es) cs) :
    PE X (.Call (.Name x p) (e :: es) [] pos) (tE P W Φ (.callv i (fnTab Γ.fs) cs)) := by
  have hN : X.N[i]? = some x := by rw [ok.N]; exact ixOf_at hi
  have hl := h.len
  have hr : ∀ {es : List Expr} {cs : List E}, SndL X P W Φ es cs → es.all nst = true := fun {es cs} z => by
    induction z with
    | nil => rfl
    | cons a _ _ ih => rw [List.all_cons, a, ih]; rfl
  have hn : nst e = true ∧ es.all nst = true := by
    have := hr h
    rw [List.all_cons, Bool.and_eq_true] at this
    exact this
  have hcs := fun m => h.cargs m
  refine ⟨fun pins s σ H Q I ⟨O, ρ, Z, a⟩ => ?_⟩
  replace a : Aft P W σ O H (match ρ[i]? with
    | some (.val (.fn x)) => (match (fnTab Γ.fs).lookup x with
      | some (f, n) => if cs.length = n then (evCs Φ [] cs ρ).bind (callR Φ f) else .bad
      | none => .bad)
    | _ => .bad) fun s ρ' O' H' => ∀ v, RepR P O' ρ' σ H' v s → Q v H' := a
  split at a
  · rename_i y hy
    split at a
    · rename_i f n hf
      split at a
      · rename_i hlen
        obtain ⟨g, g1, g2, g3⟩ := fnTab_at hf
        subst g2
        obtain ⟨fa, q1, q2, q3, F⟩ := (ok.fs f g g1).at_
        obtain ⟨v, k1, k2⟩ := Z.val i _ hy
        have hv2 : v = .ref fa := by
          cases k2 with
          | fn h => rw [q3] at h; cases h; rfl
        subst hv2
        rw [evCs_rep (n := n), ← g3] at a
        have hm : g.mask.length = cs.length := by rw [g3, List.length_replicate, hlen]
        have hh : tE P W Φ (.call f g.mask cs) σ H Q := ⟨O, ρ, Z, a⟩
        exact (pe_callLG (i := i) (pos := pos) (p := p) ok.gd ok.tk hN (ok.vis hv) hd hcd hn (hcs g.mask)).run pins s σ H Q I ⟨fa, k, _, _, k1, q2, F, ok.room, call_args hm hh⟩
      · exact a.elim
    · exact a.elim
  · exact a.elim
/-! ### subscripts, slices -/
def isSlice : Expr → Bool
  | .Slice .. => true
  | _ => false
theorem plain_ix {b : Expr} (h : isSlice b = false) : PlainIx b := by
  intro o i
  cases b <;> first | rfl | cases h
theorem pe_ixD (hK : P.G.K = X.K) (hu : X.A.units + 65 < cLine) (hs : isSlice b = false) (ha : Snd X P W Φ a ca) (hb : Snd X P W Φ b cb) : PE X (.Subscript a b pos) (tE P W Φ (.op .ix [ca, cb])) :=
  (pe_ix (ixr hK hu) ha.arg hb.arg (plain_ix hs)).weak fun σ H Q h => args2 (op_args h)
/-- a whole number, or nothing goes on -/
theorem ck_rd {Q : VK} (h : tArg P W (argR Φ (.op .ck [ca])) σ H Q) : tArg P W (argR Φ ca) σ H fun x H1 => ∃ i, x = .int i ∧ Q x H1 := by
  obtain ⟨O, ρ, Z, q⟩ := h
  have q2 : tE P W Φ (.op .ck [ca]) σ H Q := ⟨O, ρ, Z, by
    have e : argR Φ (.op .ck [ca]) ρ = (rel (ev Φ (.op .ck [ca]) ρ)).map fun p => (Arg.dat p.1, p.2) := rfl
    rw [e] at q
    refine Aft.rel ?_
    exact (Aft.map (f := fun p : D × Sts => (Arg.dat p.1, p.2)) (fun _ => rfl) q).imp fun d _ _ _ _ _ q v rv => q v rv⟩
  refine (args1 (op_args q2)).imp fun x H1 ⟨O, ds, sl, hr, od, hg, q⟩ => ?_
  obtain ⟨x', d, e, rfl, h1, hg⟩ := hr.get1 hg (len1 (fun _ _ _ => by simp [opf]) rfl)
  cases e
  cases d with
  | int i =>
    cases hg
    refine ⟨i, h1.int, ?_⟩
    rw [h1.int]
    exact q _ _ (.vl (.int i))
  | _ => cases hg
theorem sl_fin {lo hi : Bool} {Q : VK} {x : V} {vs : List V} {H1 : Hp} {l u : Option Int} (hl : vs = l.toList.map V.int ++ u.toList.map V.int) (hlo : lo = l.isSome) (hhi : hi = u.isSome) (h : rD P.G (opf (.sl lo hi)) (x :: vs) H1 Q) : rSl P.G x l u H1 Q := by
  subst hl hlo hhi
  obtain ⟨O, ds, sl, hr, od, hg, q⟩ := h
  cases hr with
  | cons h1 hr =>
    rename_i d ds
    replace hg : (bounds l.isSome u.isSome ds).bind (fun p => slf p.1 p.2 d) = some sl := hg
    obtain ⟨p, hb, hg⟩ := Option.bind_eq_some_iff.mp hg
    refine ⟨O, d, sl, h1, od, ?_, q⟩
    cases l with
    | none =>
      cases u with
      | none => cases hr; cases hb; exact hg
      | some j =>
        cases hr with
        | cons z r =>
          cases r
          rename_i d1
          cases d1 with
          | int i => cases z.int; cases hb; exact hg
          | _ => cases hb
    | some i0 =>
      cases u with
      | none =>
        cases hr with
        | cons z r =>
          cases r
          rename_i d1
          cases d1 with
          | int i => cases z.int; cases hb; exact hg
          | _ => cases hb
      | some j =>
        cases hr with
        | cons z r =>
          cases r with
          | cons z2 r =>
            cases r
            rename_i d1 d2
            cases d1 with
            | int i =>
              cases d2 with
              | int i2 => cases z.int; cases z2.int; cases hb; exact hg
              | _ => cases hb
            | _ => cases d2 <;> cases hb
theorem pe_slD {lo hi : Option Expr} {clo chi : Option E} {p2 : Pos} (hK : P.G.K = X.K) (ha : Snd X P W Φ a ca) (hl : ∀ e c, lo = some e → clo = some c → Snd X P W Φ e c) (hh : ∀ e c, hi = some e → chi = some c → Snd X P W Φ e c) (sl : lo.isSome = clo.isSome) (sh : hi.isSome = chi.isSome) :
    PE X (.Subscript a (.Slice lo hi none p2) pos) (tE P W Φ (.op (.sl clo.isSome chi.isSome) (ca :: ((clo.toList ++ chi.toList).map fun c => .op .ck [c])))) := by
  cases lo with
  | none =>
    cases clo with
    | some _ => cases sl
    | none =>
    cases hi with
    | none =>
      cases chi with
      | some _ => cases sh
      | none =>
        refine (pe_slice (slr hK) ha.arg po_none po_none).weak fun σ H Q h => ?_
        exact (args1 (op_args h)).imp fun x H1 h => sl_fin (l := none) (u := none) rfl rfl rfl h
    | some e2 =>
      cases chi with
      | none => cases sh
      | some c2 =>
        refine (pe_slice (slr hK) ha.arg po_none (po_some (hh e2 c2 rfl rfl).arg)).weak fun σ H Q h => ?_
        refine (args2 (op_args h)).imp fun x H1 h => ?_
        exact (ck_rd h).imp fun y H2 ⟨i, e, h⟩ => ⟨i, e, sl_fin (l := none) (u := some i) (by rw [e]; rfl) rfl rfl h⟩
  | some e1 =>
    cases clo with
    | none => cases sl
    | some c1 =>
    cases hi with
    | none =>
      cases chi with
      | some _ => cases sh
      | none =>
        refine (pe_slice (slr hK) ha.arg (po_some (hl e1 c1 rfl rfl).arg) po_none).weak fun σ H Q h => ?_
        refine (args2 (op_args h)).imp fun x H1 h => ?_
        exact (ck_rd h).imp fun y H2 ⟨i, e, h⟩ => ⟨i, e, sl_fin (l := some i) (u := none) (by rw [e]; rfl) rfl rfl h⟩
    | some e2 =>
      cases chi with
      | none => cases sh
      | some c2 =>
        refine (pe_slice (slr hK) ha.arg (po_some (hl e1 c1 rfl rfl).arg) (po_some (hh e2 c2 rfl rfl).arg)).weak fun σ H Q h => ?_
        refine (args_cons (op_args h)).imp fun x H1 h => ?_
        refine (ck_rd (args_cons h)).imp fun y H2 ⟨i, e, h⟩ => ⟨i, e, ?_⟩
        refine (ck_rd (args_cons h)).imp fun z H3 ⟨j, e', h⟩ => ⟨j, e', ?_⟩
        exact sl_fin (l := some i) (u := some j) (by rw [e, e']; rfl) rfl rfl (args_nil h)
end
end DL
namespace DL
open PySem L2
section
variable {X : Cx} {W : WX} {P : Pm} {Γ : Ctx} {Φ : Nat → Fn} {k : Nat} {σ : St} {H : Hp} {a b c : Expr} {ca cb cc : E} {p pos : Pos} {x : Str}
/-! ### built-ins -/
theorem pe_b1 {o : Op} {id : String} (ok : Ok X W P Γ Φ k) (hx : Γ.bi x = true) (hv : bootBuiltins x = some (.builtin id)) (hc : CallR X (.builtin id) (rD P.G (opf o))) (hn : nst a = true) (ha : Snd X P W Φ a ca) : PE X (.Call (.Name x p) [a] [] pos) (tE P W Φ (.op o [ca])) := by
  obtain ⟨g1, g2, g3, g4⟩ := ok.bi hx
  exact (pe_callB hc g1 g4 hv (SndL.cons hn ha .nil).args g3 g2 (starEach_nst hn _ _) rfl).weak fun σ H Q h => op_args h
theorem pe_t1 {o : Op} {id : String} (ok : Ok X W P Γ Φ k) (hx : Γ.bi x = true) (hv : bootBuiltins x = some (.type id)) (hc : CallR X (.type id) (rD P.G (opf o))) (hn : nst a = true) (ha : Snd X P W Φ a ca) : PE X (.Call (.Name x p) [a] [] pos) (tE P W Φ (.op o [ca])) := by
  obtain ⟨g1, g2, g3, g4⟩ := ok.bi hx
  exact (pe_callTy hc g1 g4 hv (SndL.cons hn ha .nil).args g3 g2 (starEach_nst hn _ _) rfl).weak fun σ H Q h => op_args h
theorem tArgs.imp {r : Sts → R Sts (List Arg × Sts)} {Q Q' : List V → Hp → Prop} (h : tArgs P W r σ H Q) (k : ∀ v H', Q v H' → Q' v H') : tArgs P W r σ H Q' := by
  obtain ⟨O, ρ, Z, a⟩ := h
  exact ⟨O, ρ, Z, a.imp fun _ _ _ _ _ _ q v rv => k _ _ (q v rv)⟩
theorem pe_m1 {o : Op} {id : String} (ok : Ok X W P Γ Φ k) (hx : Γ.bi x = true) (hv : bootBuiltins x = some (.builtin id)) (hc : CallR X (.builtin id) (fun xs H Q => (xs.length = 1 ∨ xs.length = 2) ∧ rD P.G (opf o) xs H Q)) (hn : nst a = true) (ha : Snd X P W Φ a ca) : PE X (.Call (.Name x p) [a] [] pos) (tE P W Φ (.op o [ca])) := by
  obtain ⟨g1, g2, g3, g4⟩ := ok.bi hx
  exact (pe_callB hc g1 g4 hv (pa_consN hn ha.arg pa_nil) g3 g2 (starEach_nst hn _ _) rfl).weak fun σ H Q h => (args1 (op_args h)).imp fun v H1 q => ⟨.inl rfl, q⟩
theorem pe_m2 {o : Op} {id : String} (ok : Ok X W P Γ Φ k) (hx : Γ.bi x = true) (hv : bootBuiltins x = some (.builtin id)) (hc : CallR X (.builtin id) (fun xs H Q => (xs.length = 1 ∨ xs.length = 2) ∧ rD P.G (opf o) xs H Q)) (hn : nst a = true) (hn2 : nst b = true) (ha : Snd X P W Φ a ca) (hb : Snd X P W Φ b cb) : PE X (.Call (.Name x p) [a, b] [] pos) (tE P W Φ (.op o [ca, cb])) := by
  obtain ⟨g1, g2, g3, g4⟩ := ok.bi hx
  exact (pe_callB hc g1 g4 hv (pa_consN hn ha.arg (pa_consN hn2 hb.arg pa_nil)) g3 g2 (starEach_nst hn _ _) (plain_nst (by simp [hn2]))).weak fun σ H Q h => (args2 (op_args h)).imp fun v H1 q => q.imp fun w H2 q => ⟨.inr rfl, q⟩
theorem cr_listD (hK : P.G.K = X.K) : CallR X (.type "list") (rD P.G (opf .list)) := call_list_of.wk fun xs H Q h => by
  obtain ⟨O, ds, sl, hr, od, hg, q⟩ := h
  obtain ⟨x, d, rfl, rfl, h1, hg⟩ := hr.get1 hg (len1 (fun _ _ _ => by simp [opf]) rfl)
  cases d with
  | lst ys =>
    cases hg
    obtain ⟨a, zs, rfl, e1, r1⟩ := h1.lst
    exact ⟨a, zs, rfl, .inl (.of e1), fun p hp => q _ _ (.nl hp r1)⟩
  | rol ys =>
    cases hg
    obtain ⟨a, zs, rfl, e1, r1⟩ := h1.rol
    exact ⟨a, zs, rfl, .inl (hK ▸ e1), fun p hp => q _ _ (.nl hp r1)⟩
  | tup ys =>
    cases hg
    obtain ⟨a, zs, rfl, e1, r1⟩ := h1.tup
    exact ⟨a, zs, rfl, .inr (hK ▸ e1), fun p hp => q _ _ (.nl hp r1)⟩
  | _ => cases hg
theorem mem_look {α : Type} {l : List (Str × α)} {x : Str} {o : α} (h : l.lookup x = some o) : ∃ y, (y, o) ∈ l ∧ x = y := by
  have := PySem.mem_of_lookup h
  exact ⟨x, this, rfl⟩
theorem pe_bi1 {o : Op} (ok : Ok X W P Γ Φ k) (hx : Γ.bi x = true) (ho : bi1 x = some o) (hn : nst a = true) (ha : Snd X P W Φ a ca) : PE X (.Call (.Name x p) [a] [] pos) (tE P W Φ (.op o [ca])) := by
  have hu := ok.un
  have hm : (x, o) ∈ bi1T := PySem.mem_of_lookup ho
  simp only [bi1T, List.mem_cons, Prod.mk.injEq, List.not_mem_nil, or_false] at hm
  rcases hm with ⟨rfl, rfl⟩ | ⟨rfl, rfl⟩ | ⟨rfl, rfl⟩ | ⟨rfl, rfl⟩ | ⟨rfl, rfl⟩ | ⟨rfl, rfl⟩ | ⟨rfl, rfl⟩ | ⟨rfl, rfl⟩ | ⟨rfl, rfl⟩ | ⟨rfl, rfl⟩ | ⟨rfl, rfl⟩ | ⟨rfl, rfl⟩ | ⟨rfl, rfl⟩
  · exact pe_b1 (id := "len") ok hx (by decide +kernel) (cr_len ok.K) hn ha
  · exact pe_t1 (id := "int") ok hx (by decide +kernel) cr_int hn ha
  · exact pe_b1 (id := "abs") ok hx (by decide +kernel) cr_abs hn ha
  · exact pe_b1 (id := "all") ok hx (by decide +kernel) (cr_allD ok.calm) hn ha
  · exact pe_b1 (id := "any") ok hx (by decide +kernel) (cr_anyD ok.calm) hn ha
  · exact pe_b1 (id := "sum") ok hx (by decide +kernel) (cr_sumD ok.K ok.calm) hn ha
  · exact pe_m1 (id := "max") ok hx (by decide +kernel) (cr_maxD ok.K ok.calm) hn ha
  · exact pe_m1 (id := "min") ok hx (by decide +kernel) (cr_minD ok.K ok.calm) hn ha
  · exact pe_t1 (id := "tuple") ok hx (by decide +kernel) (cr_tupleD ok.K) hn ha
  · exact pe_t1 (id := "list") ok hx (by decide +kernel) (cr_listD ok.K) hn ha
  · exact pe_b1 (id := "repr") ok hx (by decide +kernel) (cr_repr ok.K ok.gd hu) hn ha
  · exact pe_b1 (id := "sorted") ok hx (by decide +kernel) (cr_sortD ok.K ok.calm) hn ha
  · exact pe_t1 (id := "dict") ok hx (by decide +kernel) (cr_dictD ok.K ok.calm) hn ha
theorem pe_dic0 : PE X (.Dict [] [] pos) (tE P W Φ (.mk .dic [])) := pe_dnewK.weak fun σ H Q h => by
  obtain ⟨O, ds, s, hv, od, hm, q⟩ := vs_nil (mk_args h)
  cases hv
  cases hm
  exact fun p hp => q _ _ (.nd hp .nil)
theorem pe_revD {kk : Nat} {p1 p2 p3 : Pos} (hK : P.G.K = X.K) (ha : Snd X P W Φ a ca) : PE X (.Subscript a (.Slice none none (some (.UnaryOp .USub (.Constant (.int 1) kk p1) p2)) p3) pos) (tE P W Φ (.op .rev [ca])) :=
  (ZT.pe_revT ha.arg).weak fun σ H Q h => (args1 (op_args h)).imp fun x H1 ⟨O, ds, sl, hr, od, hg, q⟩ => by
    obtain ⟨x', d, e, rfl, h1, hg⟩ := hr.get1 hg (len1 (fun _ _ _ => by simp [opf]) rfl)
    cases e
    have rev : ∀ {vs : List V} {ds : List D}, Reps P.G (cut H1 O) vs ds → Reps P.G (cut H1 O) vs.reverse ds.reverse := fun {vs ds} r => by
      induction vs generalizing ds with
      | nil => cases r; exact .nil
      | cons v vs ih =>
        cases r with
        | cons r1 r2 =>
          rw [List.reverse_cons, List.reverse_cons]
          exact (ih r2).append (.cons r1 .nil)
    cases d with
    | lst ys =>
      cases hg
      obtain ⟨b, zs, rfl, e1, r1⟩ := h1.lst
      exact ⟨b, zs, rfl, .inl ⟨.of e1, fun p hp => q _ _ (.nl hp (rev r1))⟩⟩
    | tup ys =>
      cases hg
      obtain ⟨b, zs, rfl, e1, r1⟩ := h1.tup
      rw [hK] at e1
      exact ⟨b, zs, rfl, .inr ⟨e1, fun p hp => q _ _ (.nt od hp (rev r1))⟩⟩
    | _ => cases hg
theorem pe_bi2 {o : Op} (ok : Ok X W P Γ Φ k) (hx : Γ.bi x = true) (ho : bi2 x = some o) (hn : nst a = true) (hn2 : nst b = true) (ha : Snd X P W Φ a ca) (hb : Snd X P W Φ b cb) : PE X (.Call (.Name x p) [a, b] [] pos) (tE P W Φ (.op o [ca, cb])) := by
  have hm : (x, o) ∈ bi2T := PySem.mem_of_lookup ho
  simp only [bi2T, List.mem_cons, Prod.mk.injEq, List.not_mem_nil, or_false] at hm
  rcases hm with ⟨rfl, rfl⟩ | ⟨rfl, rfl⟩
  · exact pe_m2 (id := "max") ok hx (by decide +kernel) (cr_maxD ok.K ok.calm) hn hn2 ha hb
  · exact pe_m2 (id := "min") ok hx (by decide +kernel) (cr_minD ok.K ok.calm) hn hn2 ha hb
theorem tyName_boot {t : String} (h : tyName x = some t) : bootBuiltins x = some (.type t) := by
  have hm : (x, t) ∈ tyT := PySem.mem_of_lookup h
  simp only [tyT, List.mem_cons, Prod.mk.injEq, List.not_mem_nil, or_false] at hm
  rcases hm with ⟨rfl, rfl⟩ | ⟨rfl, rfl⟩ | ⟨rfl, rfl⟩ | ⟨rfl, rfl⟩ | ⟨rfl, rfl⟩ <;> decide +kernel
theorem pe_isi {y : Str} {p2 : Pos} {t : String} (ok : Ok X W P Γ Φ k) (hx : Γ.bi "isinstance" = true) (hy : Γ.bi y = true) (ht : tyName y = some t) (hn : nst a = true) (ha : Snd X P W Φ a ca) :
    PE X (.Call (.Name "isinstance" p) [a, .Name y p2] [] pos) (tE P W Φ (.op (.isi t) [ca])) := by
  obtain ⟨g1, g2, g3, g4⟩ := ok.bi hx
  obtain ⟨k1, k2, k3, k4⟩ := ok.bi hy
  have hp : PE X (.Name y p2) (tC (.ty t)) := pe_bltn k1 k4 (tyName_boot ht) rfl k3 k2
  refine (pe_callB (cr_isi (n := t) ok.K) g1 g4 (by decide +kernel) (pa_consN hn ha.arg (pa_consN rfl hp pa_nil)) g3 g2 (starEach_nst hn _ _) rfl).weak fun σ H Q h => ?_
  exact (args1 (op_args h)).imp fun v H1 q => ⟨v, rfl, q⟩

/-! ### what changes a list -/
theorem mu_rd {m : Mu} {i : Nat} {cs : List E} {Q : VK} (h : tE P W Φ (.mu m i cs) σ H Q) : ∃ l, σ[i]? = some (some (.ref l)) ∧ (∃ o, H l = some o ∧ ∀ xs, o = .lst xs → True) ∧ (∃ xs, H l = some (.lst xs)) ∧
    tVs P W (fun ρ => evVs Φ cs ρ) σ H fun vs H1 => ∃ O ds d r d' xs, Reps P.G (cut H1 O) vs ds ∧ H1 l = some (.lst xs) ∧ (∃ es, d = .lst es ∧ Reps P.G (cut H1 O) xs es) ∧ muf m d ds = some (r, d') ∧
      ∀ xs' es', d' = .lst es' → Reps P.G (cut H1 O) xs' es' → ∀ v, Rep P.G (cut H1 O) v r → Q v (upd H1 l (.lst xs')) := by
  obtain ⟨O, ρ, Z, q⟩ := h
  replace q : Aft P W σ O H (if isLst ρ i then (evVs Φ cs ρ).bind (muR m i) else .bad) fun s ρ' O' H' => ∀ v, RepR P O' ρ' σ H' v s → Q v H' := q
  split at q
  · rename_i c0
    unfold isLst at c0
    cases hd0 : (ρ[i]?).bind Slot.mu? with
    | none => rw [hd0] at c0; cases c0
    | some d0 =>
    rw [hd0] at c0
    obtain ⟨l, e1, e2, e3, _⟩ := Z.mu hd0
    have hl : ∃ xs, H l = some (.lst xs) := by
      cases d0 with
      | lst ds => obtain ⟨xs, h, _⟩ := e3; exact ⟨xs, h⟩
      | _ => cases c0
    obtain ⟨xs0, hl0⟩ := hl
    refine ⟨l, e1, ⟨_, hl0, fun _ _ => trivial⟩, ⟨xs0, hl0⟩, O, ρ, Z, q.bind.imp fun ds ρ1 O1 H1 R1 _ q1 vs hv => ?_⟩
    unfold muR at q1
    split at q1
    · rename_i d hd
      split at q1
      · rename_i r d' hm
        obtain ⟨l', f1, f2, f3, _⟩ := R1.mu hd
        rw [e1] at f1
        cases f1
        cases d with
        | lst es =>
          obtain ⟨xs, g1, g2⟩ := f3
          refine ⟨O1, ds, .lst es, r, d', xs, hv, g1, ⟨es, rfl, g2⟩, hm, fun xs' es' he hr v hv' => ?_⟩
          subst he
          have ck := cut_in (H := H1) (O := O1) (o := .lst xs') f2
          have R2 : Rel P O1 (putE ρ1 i (.lst es')) σ (upd H1 l (.lst xs')) := R1.change hd e1 trivial ⟨xs', upd_same, by rw [ck]; exact hr⟩
          exact q1 O1 _ R2 (ext_in f2) v (by show Rep P.G (cut (upd H1 l (.lst xs')) O1) v r; rw [ck]; exact hv')
        | _ => cases m <;> (unfold muf at hm; cases hm)
      · exact q1.elim
    · exact q1.elim
  · exact q.elim
theorem base_name {m : Str} {y : Str} {p0 : Pos} : attributeBase (.Name y p0) m X.env (eval (.Name y p0) X.env) = eval (.Name y p0) X.env := rfl
theorem few1 {cpos : Pos} (hn : nst a = true) : ((backTo cpos (starEach (a :: []) X.env)).all (fun x => !x.1) && (backToKw cpos (keywordEach [] X.env)).all (fun x => x.1.isSome)
      && decide ((a :: ([] : List Expr)).length + ([] : List Keyword).length + (if ([] : List Keyword).isEmpty then 0 else 1) < 30)) = true := by
  rw [starEach_nst hn]; rfl
theorem pe_append {y : Str} {p0 apos cpos : Pos} {i : Nat} (hy : PE X (.Name y p0) (tVar i)) (hl : (apos.endLine == cpos.line) = true) (hn : nst a = true) (ha : Snd X P W Φ a ca) :
    PE X (.Call (.Attribute (.Name y p0) "append" apos) [a] [] cpos) (tE P W Φ (.mu .append i [ca])) := by
  refine (pe_bm PySem.F.plainAttrs_list PySem.F.slot_list_append PySem.F.type_list_append mt_append hy (SndL.cons hn ha .nil).vs base_name (few1 hn) hl (starEach_nst hn _ _) rfl).weak fun σ H Q h => ?_
  have hs : sizeLine = 16777216 := sizeLine_eq
  obtain ⟨l, e1, _, ⟨xs0, e2⟩, q⟩ := mu_rd h
  refine ⟨.ref l, e1, .inl ⟨rfl, xs0, .of e2⟩, q.imp fun vs H1 ⟨O, ds, d, r, d', xs, h1, h2, ⟨es, hd, h3⟩, hm, q⟩ => ?_⟩
  subst hd
  match ds, vs, h1, hm with
  | [w], _, .cons (v := v) hw .nil, hm =>
    replace hm : (if es.length < Line then some (D.non, D.lst (es ++ [w])) else none) = some (r, d') := hm
    split at hm
    · rename_i c
      cases hm
      exact ⟨l, xs, v, rfl, rfl, h2, by rw [hs, h3.length]; exact c, q _ _ rfl (h3.append (.cons hw .nil)) _ .non⟩
    · cases hm
  | [], _, _, hm => cases hm
  | _ :: _ :: _, _, _, hm => simp [muf] at hm
theorem pe_extend {y : Str} {p0 apos cpos : Pos} {i : Nat} (hy : PE X (.Name y p0) (tVar i)) (hl : (apos.endLine == cpos.line) = true) (hn : nst a = true) (ha : Snd X P W Φ a ca) :
    PE X (.Call (.Attribute (.Name y p0) "extend" apos) [a] [] cpos) (tE P W Φ (.mu .extend i [ca])) := by
  refine (pe_bm PySem.F.plainAttrs_list PySem.F.slot_list_extend PySem.F.type_list_extend mt_extend hy (SndL.cons hn ha .nil).vs base_name (few1 hn) hl (starEach_nst hn _ _) rfl).weak fun σ H Q h => ?_
  have hs : sizeLine = 16777216 := sizeLine_eq
  obtain ⟨l, e1, _, ⟨xs0, e2⟩, q⟩ := mu_rd h
  refine ⟨.ref l, e1, .inl ⟨rfl, xs0, .of e2⟩, q.imp fun vs H1 ⟨O, ds, d, r, d', xs, h1, h2, ⟨es, hd, h3⟩, hm, q⟩ => ?_⟩
  subst hd
  match ds, vs, h1, hm with
  | [.lst ws], _, .cons (.lst (a := b) (xs := zs) hb hw) .nil, hm =>
    replace hm : (if es.length + ws.length ≤ Line then some (D.non, D.lst (es ++ ws)) else none) = some (r, d') := hm
    split at hm
    · rename_i c
      cases hm
      exact ⟨l, b, xs, zs, rfl, rfl, h2, cut_le hb, by rw [hs, h3.length, hw.length]; exact c, q _ _ rfl (h3.append hw) _ .non⟩
    · cases hm
  | [.non], _, _, hm => cases hm
  | [.bl _], _, _, hm => cases hm
  | [.int _], _, _, hm => cases hm
  | [.str _], _, _, hm => cases hm
  | [.tup _], _, _, hm => cases hm
  | [.dic _], _, _, hm => cases hm
  | [.fn _], _, _, hm => cases hm
  | [.ty _], _, _, hm => cases hm
  | [.rol _], _, _, hm => cases hm
  | [], _, _, hm => cases hm
  | _ :: _ :: _, _, _, hm => simp [muf] at hm
theorem pe_pop {y : Str} {p0 apos cpos : Pos} {i : Nat} (hy : PE X (.Name y p0) (tVar i)) (hl : (apos.endLine == cpos.line) = true) :
    PE X (.Call (.Attribute (.Name y p0) "pop" apos) [] [] cpos) (tE P W Φ (.mu .pop i [])) := by
  refine (pe_bm0 PySem.F.plainAttrs_list PySem.F.slot_list_pop PySem.F.type_list_pop mt_pop hy base_name hl).weak fun σ H Q h => ?_
  obtain ⟨l, e1, _, ⟨xs0, e2⟩, q⟩ := mu_rd h
  refine ⟨.ref l, e1, .inl ⟨rfl, xs0, .of e2⟩, ?_⟩
  obtain ⟨O, ds, d, r, d', xs, h1, h2, ⟨es, hd, h3⟩, hm, q⟩ := vs_nil q
  subst hd
  cases h1
  replace hm : (match es.getLast? with
    | some y => some (y, D.lst es.dropLast)
    | none => none) = some (r, d') := hm
  split at hm
  · rename_i y hy
    cases hm
    rw [List.getLast?_eq_getElem?] at hy
    obtain ⟨v, f1, f2⟩ := h3.get hy
    rw [← h3.length] at f1
    exact ⟨l, xs, v, rfl, rfl, h2, f1, q _ _ rfl h3.dropLast _ f2⟩
  · cases hm
/-! ### written dicts -/
theorem ent_ns {K : PySem.W.Frag} {w : World} {d : Addr} {es : Array DictEntry} {n : Nat} {kvs : List (Str × Int)} (D : KDict K w d es n) (r : EntRel es.toList kvs) (z : Str) : match kvs.lookup z with
    | some i => ∃ t, PySem.W.nsIn K d z = some (some (.int i t))
    | none => PySem.W.nsIn K d z = some none := by
  have key : ∀ {l : List DictEntry} {kvs : List (Str × Int)}, EntRel l kvs → match kvs.lookup z with
      | some i => ∃ e t, l.find? (·.key.isStr z) = some e ∧ e.val = .int i t
      | none => l.find? (·.key.isStr z) = none ∧ l.any (·.refKey) = false := fun {l kvs} r => by
    induction r with
    | nil => exact ⟨rfl, rfl⟩
    | cons h1 h2 r ih =>
      rename_i e es x i kvs
      obtain ⟨t, h1⟩ := h1
      obtain ⟨t', h2⟩ := h2
      rw [List.lookup_cons]
      by_cases hz : z = x
      · subst hz
        have : (z == z) = true := beq_self_eq_true z
        rw [this]
        refine ⟨e, t', ?_, h2⟩
        rw [List.find?_cons_of_pos]
        rw [h1]
        simp [Value.isStr]
      · have hb : (z == x) = false := by simpa using hz
        rw [hb]
        have hne : e.key.isStr z = false := by
          rw [h1]
          simp [Value.isStr]
          exact fun q => hz q.symm
        have hr : e.refKey = false := by simp [DictEntry.refKey, h1]
        revert ih
        cases kvs.lookup z with
        | none =>
          rintro ⟨q1, q2⟩
          refine ⟨?_, ?_⟩
          · rw [List.find?_cons_of_neg (by simp [hne])]; exact q1
          · rw [List.any_cons, hr, q2]; rfl
        | some j =>
          rintro ⟨e', t'', q1, q2⟩
          refine ⟨e', t'', ?_, q2⟩
          rw [List.find?_cons_of_neg (by simp [hne])]; exact q1
  have k := key r
  unfold PySem.W.nsIn
  rw [D.at_]
  dsimp only
  revert k
  cases kvs.lookup z with
  | none => rintro ⟨q1, q2⟩; rw [q1, q2]; rfl
  | some i => rintro ⟨e, t, q1, q2⟩; exact ⟨t, by rw [q1]; show some (some e.val) = _; rw [q2]⟩
theorem inK_bl {kvs : List (Str × Int)} {neg : Bool} : ∀ ds s, opf (.inK kvs neg) ds = some s → ∃ b, s = .val (.bl b)
  | [], _, h => by cases h
  | [d], s, h => by
    cases d with
    | str z => cases h; exact ⟨_, rfl⟩
    | _ => cases h
  | _ :: _ :: _, _, h => by simp [opf] at h
theorem inK_rd {kvs : List (Str × Int)} {neg : Bool} {v : V} {d : Addr} {es : Array DictEntry} {n : Nat} {Q : VK} (D : KDict X.K X.w d es n) (r : EntRel es.toList kvs) (h : rD P.G (opf (.inK kvs neg)) [v] H Q) :
    ∃ (z : Str) (r : Option Value), v = .str z ∧ PySem.W.nsIn X.K d z = some r ∧ Q (.bl (if neg then !r.isSome else r.isSome)) H := by
  obtain ⟨O, ds, sl, hr, od, hg, q⟩ := h
  cases hr with
  | cons h1 hr =>
    cases hr
    rename_i dx
    cases dx with
    | str z =>
      cases hg
      cases h1.str
      have k := ent_ns D r z
      revert k q
      cases kvs.lookup z with
      | none => exact fun q k => ⟨z, none, rfl, k, q _ _ (.vl (.bl _))⟩
      | some i =>
        rintro q ⟨t, k⟩
        exact ⟨z, _, rfl, k, q _ _ (.vl (.bl _))⟩
    | _ => cases hg
theorem ds_at (ok : Ok X W P Γ Φ k) {b : Expr} {kvs : List (Str × Int)} (h : dictOf Γ b = some kvs) : ∃ d es n, PE X b (tC (.ref d)) ∧ KDict X.K X.w d es n ∧ EntRel es.toList kvs := by
  unfold dictOf at h
  split at h
  · rename_i x p
    split at h
    · rename_i hg
      obtain ⟨a, h1, ⟨es, n, h2, h3⟩⟩ := ok.ds x kvs h
      obtain ⟨g1, g2, g3⟩ := ok.glob hg
      exact ⟨a, es, n, pe_glob g1 h1 rfl g2, h2, h3⟩
    · cases h
  · cases h
theorem pe_inK {kvs : List (Str × Int)} {o : CmpOp} {op : Op} (ok : Ok X W P Γ Φ k) (hb : dictOf Γ b = some kvs) (ho : inOp kvs o = some op) (hd : isDisp b = false) (ha : Snd X P W Φ a ca) : PE X (.Compare a [o] [b] pos) (tE P W Φ (.op op [ca])) ∧ PT X (.Compare a [o] [b] pos) (tT P W Φ (.op op [ca])) := by
  obtain ⟨d, es, n, hp, D, r⟩ := ds_at ok hb
  cases o with
  | In =>
    cases ho
    refine ⟨(pe_cmpR (op_in_kd D) ha.arg hp (not_marks hd)).weak fun σ H Q h => (args1 (op_args h)).imp fun v H1 q => ?_, (pt_cmpR (op_in_kd D) ha.arg hp (not_marks hd)).weak fun σ H Q ⟨O, ρ, R, h⟩ => (args1 (op_args (P := P) (W := W) (Φ := Φ) (Q := fun v H' => ∃ k, v = V.bl k ∧ Q k H') ⟨O, ρ, R, tru_bl (ρ := ρ) (fun p e => op_bl inK_bl e) h⟩)).imp fun v H1 q => ?_⟩
    · obtain ⟨z, r, rfl, h1, h2⟩ := inK_rd D r q
      exact ⟨z, r, rfl, rfl, h1, h2⟩
    · obtain ⟨z, r, rfl, h1, h2⟩ := inK_rd D r q
      exact ⟨z, r, rfl, rfl, h1, h2⟩
  | NotIn =>
    cases ho
    refine ⟨(pe_cmpR (op_notIn_kd D) ha.arg hp (not_marks hd)).weak fun σ H Q h => (args1 (op_args h)).imp fun v H1 q => ?_, (pt_cmpR (op_notIn_kd D) ha.arg hp (not_marks hd)).weak fun σ H Q ⟨O, ρ, R, h⟩ => (args1 (op_args (P := P) (W := W) (Φ := Φ) (Q := fun v H' => ∃ k, v = V.bl k ∧ Q k H') ⟨O, ρ, R, tru_bl (ρ := ρ) (fun p e => op_bl inK_bl e) h⟩)).imp fun v H1 q => ?_⟩
    · obtain ⟨z, r, rfl, h1, h2⟩ := inK_rd D r q
      exact ⟨z, r, rfl, rfl, h1, h2⟩
    · obtain ⟨z, r, rfl, h1, h2⟩ := inK_rd D r q
      exact ⟨z, r, rfl, rfl, h1, h2⟩
  | _ => cases ho
theorem pe_ixK {kvs : List (Str × Int)} (ok : Ok X W P Γ Φ k) (hb : dictOf Γ b = some kvs) (hs : isSlice a = false) (ha : Snd X P W Φ a ca) : PE X (.Subscript b a pos) (tE P W Φ (.op (.ixK kvs) [ca])) := by
  obtain ⟨d, es, n, hp, D, r⟩ := ds_at ok hb
  refine (pe_ix ix_kdict hp ha.arg (plain_ix hs)).weak fun σ H Q h => (args1 (op_args h)).imp fun v H1 q => ?_
  obtain ⟨O, ds, sl, hr, od, hg, q⟩ := q
  cases hr with
  | cons h1 hr =>
    cases hr
    rename_i dx
    cases dx with
    | str z =>
      cases h1.str
      replace hg : (kvs.lookup z).map (fun i => Slot.val (.int i)) = some sl := hg
      obtain ⟨i, hi, rfl⟩ := Option.map_eq_some_iff.mp hg
      have k := ent_ns D r z
      rw [hi] at k
      obtain ⟨t, k⟩ := k
      exact ⟨d, z, .int i, rfl, rfl, ⟨es, n, _, D.at_, D.lit, k, ⟨t, rfl⟩⟩, q _ _ (.vl (.int _))⟩
    | _ => cases hg
end
end DL
namespace DL
open PySem L2
/-! ## targets -/
theorem wipe_set {σ : St} {i : Nat} {v : Option V} : ∀ {vs : List Nat}, i ∈ vs → wipe (σ.set i v) vs = wipe σ vs
  | [], h => by cases h
  | w :: vs, h => by
    by_cases hw : i ∈ vs
    · show (wipe (σ.set i v) vs).set w none = (wipe σ vs).set w none
      rw [wipe_set hw]
    · have e : w = i := by
        rcases List.mem_cons.mp h with h | h
        · exact h.symm
        · exact absurd h hw
      subst e
      show (wipe (σ.set w v) vs).set w none = (wipe σ vs).set w none
      have comm : ∀ (vs : List Nat), w ∉ vs → wipe (σ.set w v) vs = (wipe σ vs).set w v := fun vs => by
        induction vs with
        | nil => intro _; rfl
        | cons a r ih =>
          intro hn
          simp only [List.mem_cons, not_or] at hn
          show (wipe (σ.set w v) r).set a none = ((wipe σ r).set a none).set w v
          rw [ih hn.2, List.set_comm _ _ hn.1]
      rw [comm vs hw, List.set_set]
section
variable {X : Cx} {W : WX} {P : Pm} {Γ : Ctx} {Φ : Nat → Fn} {k : Nat} {σ : St} {H : Hp} {pos : Pos}
def tGt (P : Pm) (t : T) : TG := fun v σ H Q => ∃ O ρ s ρ', Rel P O ρ σ H ∧ RepR P O ρ σ H v s ∧ assignT t s ρ = some ρ' ∧ ∀ O' σ', Rel P O' ρ' σ' H → Ext O H O' H → (∀ vs, t.inn vs = true → wipe σ' vs = wipe σ vs) → Q σ' H
def tGts (P : Pm) (ts : List T) : TGs := fun v σ H Q => ∃ O ρ ds ρ', Rel P O ρ σ H ∧ Reps P.G (cut H O) v ds ∧ assignTs ts ds ρ = some ρ' ∧ ∀ O' σ', Rel P O' ρ' σ' H → Ext O H O' H → (∀ vs, T.inns vs ts = true → wipe σ' vs = wipe σ vs) → Q σ' H
theorem _root_.L2.PG.weak {e : Expr} {t t' : TG} (h : PG X e t) (k : ∀ v σ H Q, t' v σ H Q → t v σ H Q) : PG X e t' := ⟨fun pins s σ H v u Q I r z => h.run pins s σ H v u Q I r (k _ _ _ _ z)⟩
theorem _root_.L2.PGs.weak {e : List Expr} {t t' : TGs} (h : PGs X e t) (k : ∀ v σ H Q, t' v σ H Q → t v σ H Q) : PGs X e t' := ⟨fun pins s σ H v u Q I r z => h.run pins s σ H v u Q I r (k _ _ _ _ z)⟩
theorem pg_or {e : Expr} {t t' : TG} (h : PG X e t) (h' : PG X e t') : PG X e (fun v σ H Q => t v σ H Q ∨ t' v σ H Q) := ⟨fun pins s σ H v u Q I r z => z.elim (h.run pins s σ H v u Q I r) (h'.run pins s σ H v u Q I r)⟩
theorem each_nst {e : Expr} (h : nst e = true) (es : List Expr) (env : PySem.Env) : assignEach (e :: es) env = (false, assign e env) :: assignEach es env := by
  cases e <;> first | rfl | cases h
theorem each_len {env : PySem.Env} : ∀ {es : List Expr}, es.all nst = true → (assignEach es env).length = es.length ∧ (assignEach es env).findIdx? (·.1) = none
  | [], _ => ⟨rfl, rfl⟩
  | e :: es, h => by
    rw [List.all_cons, Bool.and_eq_true] at h
    rw [each_nst h.1]
    obtain ⟨h1, h2⟩ := each_len (env := env) h.2
    refine ⟨by simp [h1], ?_⟩
    rw [List.findIdx?_cons, if_neg (by simp), h2]; rfl
theorem setT (R : Rel P O ρ σ H) {i : Nat} {o : Bool} {s : Slot} {v : V} {ρ' : Sts} (hs : RepR P O ρ σ H v s) (h : assignT (.name i o) s ρ = some ρ') : ∃ O', Rel P O' ρ' (σ.set i (some v)) H ∧ Ext O H O' H := by
  replace h : (if i < ρ.length then some (ρ.set i (if o then s else .val s.d)) else none) = some ρ' := h
  split at h
  · rename_i hi
    cases h
    cases s with
    | val d =>
      have e : (if o = true then Slot.val d else .val (Slot.val d).d) = .val d := by cases o <;> rfl
      rw [e]
      exact ⟨O, R.setV hi hs, .refl⟩
    | own d =>
      cases o with
      | true =>
        rw [if_pos rfl]
        obtain ⟨a, rfl, h1, h2, h3, h4⟩ := hs
        exact ⟨O, R.setO hi h1 h2 h3 h4, .refl⟩
      | false =>
        rw [if_neg Bool.false_ne_true]
        obtain ⟨O', R', x, r⟩ := RepR.rel R hs
        exact ⟨O', R'.setV hi r, x⟩
    | emp => exact hs.elim
    | io _ => exact hs.elim
  · cases h
theorem Ok.tgt (ok : Ok X W P Γ Φ k) {x : Str} {p : Pos} {i : Nat} (ha : Γ.asgn x = true) (hi : ixOf Γ.N x = some i) : PG X (.Name x p) (gName i) := by
  have h1 : X.N[i]? = some x := by rw [ok.N]; exact ixOf_at hi
  have hN : X.N.Nodup := by rw [ok.N]; exact ok.nd
  unfold Ctx.asgn at ha
  split at ha
  · rename_i e
    have e' : X.env.scope.names.lookup x = some .local := by rw [ok.sc]; exact e
    exact pg_name hN h1 (.inl e') (.inr e')
  · rename_i e
    have e' : X.env.scope.names.lookup x = some .cell := by rw [ok.sc]; exact e
    exact pg_name hN h1 (.inr e') (.inl (ok.fn x ha))
  · cases ha
theorem tgt_snd (ok : Ok X W P Γ Φ k) : ∀ (n : Nat) (e : Expr) (t : T), tgtE n Γ e = some t → PG X e (tGt P t)
  | 0, _, _, h => by cases h
  | n + 1, .Name x p, t, h => by
    replace h : (if Γ.asgn x then (ixOf Γ.N x).map fun i => T.name i (Γ.M.contains x) else none) = some t := h
    split at h
    · rename_i ha
      obtain ⟨i, hi, rfl⟩ := Option.map_eq_some_iff.mp h
      refine (ok.tgt ha hi).weak fun v σ H Q ⟨O, ρ, s, ρ', Z, hs, hA, q⟩ => ?_
      obtain ⟨O', Z', x⟩ := setT Z hs hA
      refine q O' _ Z' x fun vs hv => wipe_set ?_
      simpa [T.inn] using hv
    · cases h
  | n + 1, .Tuple es kk p, t, h => by
    replace h : (if es.all nst then (es.mapM (tgtE n Γ)).map T.tup else none) = some t := h
    split at h
    · rename_i hn
      obtain ⟨ts, hm, rfl⟩ := Option.map_eq_some_iff.mp h
      have all : ∀ (es : List Expr) (ts : List T), es.all nst = true → es.mapM (tgtE n Γ) = some ts → PGs X es (tGts P ts) ∧ ts.length = es.length := fun es => by
        induction es with
        | nil =>
          intro ts _ hm
          have : ts = [] := by simpa using hm.symm
          subst this
          refine ⟨pgs_nil.weak fun v σ H Q ⟨O, ρ, ds, ρ', Z, hr, hA, q⟩ => ?_, rfl⟩
          cases ds with
          | nil =>
            cases hr
            cases hA
            exact ⟨rfl, q O σ Z .refl fun _ _ => rfl⟩
          | cons _ _ => cases hA
        | cons e es ih =>
          intro ts hn hm
          rw [List.all_cons, Bool.and_eq_true] at hn
          simp only [List.mapM_cons, bind, Option.bind_eq_some_iff, pure, Option.some.injEq] at hm
          obtain ⟨t, h1, ts', h2, rfl⟩ := hm
          obtain ⟨q1, q2⟩ := ih ts' hn.2 h2
          refine ⟨(pgs_cons (tgt_snd ok n e t h1) q1 (by rw [each_nst hn.1]; rfl)).weak fun v σ H Q ⟨O, ρ, ds, ρ', Z, hr, hA, q⟩ => ?_, by simp [q2]⟩
          cases ds with
          | nil => cases hA
          | cons d ds =>
            cases hr with
            | cons r1 r2 =>
              replace hA : (assignT t (.val d) ρ).bind (fun ρ1 => assignTs ts' ds ρ1) = some ρ' := hA
              obtain ⟨ρ1, a1, a2⟩ := Option.bind_eq_some_iff.mp hA
              refine ⟨_, _, rfl, O, ρ, .val d, ρ1, Z, r1, a1, fun O1 σ1 Z1 x1 w1 => ?_⟩
              refine ⟨O1, ρ1, ds, ρ', Z1, x1.reps r2, a2, fun O2 σ2 Z2 x2 w2 => q O2 σ2 Z2 (x1.trans x2) fun vs hv => ?_⟩
              replace hv : (t.inn vs && T.inns vs ts') = true := hv
              rw [Bool.and_eq_true] at hv
              rw [w2 vs hv.2, w1 vs hv.1]
      obtain ⟨q1, q2⟩ := all es ts hn hm
      obtain ⟨l1, l2⟩ := each_len (env := X.env) hn
      refine (pg_or (pg_tup (n := es.length) ok.calm q1 l1 l2) (pg_lst (n := es.length) ok.calm q1 l1 l2)).weak fun v σ H Q ⟨O, ρ, s, ρ', Z, hs, hA, q⟩ => ?_
      obtain ⟨O1, Z1, x1, r1⟩ := RepR.rel Z hs
      replace hA : (match s.d with
        | .tup xs => if xs.length = ts.length then assignTs ts xs ρ else none
        | .lst xs => if xs.length = ts.length then assignTs ts xs ρ else none
        | _ => none) = some ρ' := hA
      split at hA
      · rename_i xs e
        split at hA
        · rename_i hl
          rw [e] at r1
          cases r1 with
          | tup h1 h2 =>
            exact .inl ⟨_, _, rfl, ok.K ▸ SqT.full h1, by rw [h2.length, hl, q2], O1, ρ, xs, ρ', Z1, h2, hA, fun O2 σ2 Z2 x2 w2 => q O2 σ2 Z2 (x1.trans x2) w2⟩
        · cases hA
      · rename_i xs e
        split at hA
        · rename_i hl
          rw [e] at r1
          cases r1 with
          | lst h1 h2 =>
            exact .inr ⟨_, _, rfl, .of (cut_le h1), by rw [h2.length, hl, q2], O1, ρ, xs, ρ', Z1, h2, hA, fun O2 σ2 Z2 x2 w2 => q O2 σ2 Z2 (x1.trans x2) w2⟩
        · cases hA
      · cases hA
    · cases h
  | n + 1, .BoolOp .., _, h | n + 1, .NamedExpr .., _, h | n + 1, .BinOp .., _, h | n + 1, .UnaryOp .., _, h | n + 1, .Lambda .., _, h | n + 1, .IfExp .., _, h | n + 1, .Dict .., _, h | n + 1, .Set .., _, h
  | n + 1, .ListComp .., _, h | n + 1, .SetComp .., _, h | n + 1, .DictComp .., _, h | n + 1, .GeneratorExp .., _, h | n + 1, .Await .., _, h | n + 1, .Yield .., _, h | n + 1, .YieldFrom .., _, h | n + 1, .Compare .., _, h
  | n + 1, .Call .., _, h | n + 1, .FormattedValue .., _, h | n + 1, .JoinedStr .., _, h | n + 1, .Constant .., _, h | n + 1, .Attribute .., _, h | n + 1, .Subscript .., _, h | n + 1, .Starred .., _, h | n + 1, .List .., _, h | n + 1, .Slice .., _, h => by cases h

/-! ## what is walked -/
structure Wk (P : Pm) (O : List Addr) (H : Hp) (J : It) (items : List D) : Prop where
  go : ∀ i O' H', i < items.length → Ext O H O' H' → J.go i H'
  stop : ∀ O' H', Ext O H O' H' → J.stop items.length H'
  yld : ∀ i O' H' x H'', i < items.length → Ext O H O' H' → (∀ a ∈ O', ∃ o, H' a = some o ∧ Mut (some o)) → J.yld i H' x H'' → Same H' H'' ∧ ∃ d, items[i]? = some d ∧ Rep P.G (cut H'' O') x d
theorem wk_of {O : List Addr} {J : It} {n : Nat} {G' : Hp → Prop} {Y : Nat → Hp → V → Hp → Prop} {items : List D} (w : Walk J n G' Y) (hn : items.length = n) (hg : ∀ O' H', Ext O H O' H' → G' H')
    (hy : ∀ i O' H' x H'', i < n → Ext O H O' H' → (∀ a ∈ O', ∃ o, H' a = some o ∧ Mut (some o)) → Y i H' x H'' → Same H' H'' ∧ ∃ d, items[i]? = some d ∧ Rep P.G (cut H'' O') x d) : Wk P O H J items := by
  subst hn
  exact ⟨fun i O' H' hi e => w.goes i H' hi (hg O' H' e), fun O' H' e => w.stops H' (hg O' H' e), fun i O' H' x H'' hi e od y => hy i O' H' x H'' hi e od (w.yields i H' x H'' hi (hg O' H' e) y)⟩
theorem same_refl : Same H H := fun _ _ h => h
theorem wk_list {K : PySem.W.Frag} {O : List Addr} {a : Addr} {xs : List V} {ds : List D} (h : L2.SqL K (cut H O) a xs) (r : Reps P.G (cut H O) xs ds) : Wk P O H (Itl K a) ds :=
  wk_of walk_list r.length.symm (fun O' H' e => SqL.full (SqL.mono e.cuts h)) fun i O' H' x H'' hi e _ ⟨e1, e2⟩ => by
    subst e1
    obtain ⟨d, h1, h2⟩ := (e.reps r).getV e2
    exact ⟨same_refl, d, h1, h2⟩
theorem wk_tup {K : PySem.W.Frag} {O : List Addr} {a : Addr} {xs : List V} {ds : List D} (h : L2.SqT K (cut H O) a xs) (r : Reps P.G (cut H O) xs ds) : Wk P O H (Itt K a) ds :=
  wk_of walk_tup r.length.symm (fun O' H' e => SqT.full (SqT.mono e.cuts h)) fun i O' H' x H'' hi e _ ⟨e1, e2⟩ => by
    subst e1
    obtain ⟨d, h1, h2⟩ := (e.reps r).getV e2
    exact ⟨same_refl, d, h1, h2⟩
theorem wk_str {O : List Addr} {z : Str} : Wk P O H (Its z) (signsD z) :=
  wk_of walk_str (by simp [signsD]) (fun _ _ _ => trivial) fun i O' H' x H'' hi e _ ⟨e1, c, e2, e3⟩ => by
    subst e1 e3
    refine ⟨same_refl, _, ?_, .str _⟩
    unfold signsD
    rw [List.getElem?_map, Array.getElem?_toList, e2]; rfl
theorem wk_range {O : List Addr} {lo : Int} {n : Nat} : Wk P O H (Itr lo n) ((List.range n).map fun k => D.int (lo + (k : Nat))) :=
  wk_of walk_range (by simp) (fun _ _ _ => trivial) fun i O' H' x H'' hi e _ ⟨e1, e2⟩ => by
    subst e1 e2
    exact ⟨same_refl, .int (lo + i), by rw [List.getElem?_map, List.getElem?_range hi]; rfl, .int _⟩
theorem pair_new {P : Pm} {H : Hp} {O : List Addr} {T : Addr} {x y : V} {d e : D} (od : ∀ a ∈ O, ∃ o, H a = some o ∧ Mut (some o)) (hT : H T = none) (h1 : Rep P.G (cut H O) x d) (h2 : Rep P.G (cut H O) y e) :
    Same H (upd H T (.tup [x, y])) ∧ Rep P.G (cut (upd H T (.tup [x, y])) O) (.ref T) (.tup [d, e]) := by
  have := Res.nt (G := P.G) od hT (.cons h1 (.cons h2 .nil))
  exact this
theorem wk_enum {K : PySem.W.Frag} {O : List Addr} {a : Addr} {xs : List V} {ds : List D} (h : L2.SqL K (cut H O) a xs) (r : Reps P.G (cut H O) xs ds) : Wk P O H (Ite K a) ((List.range ds.length).zipWith (fun (i : Nat) x => D.tup [.int i, x]) ds) :=
  wk_of walk_enum (by simp [r.length]) (fun O' H' e => SqL.full (SqL.mono e.cuts h)) fun i O' H' v H'' hi e od ⟨T, x, y, e1, hT, e2, e3, e4⟩ => by
    subst e1 e2
    cases e3
    obtain ⟨d, h1, h2⟩ := (e.reps r).getV e4
    obtain ⟨s, q⟩ := pair_new (P := P) od hT (.int (i : Nat)) h2
    refine ⟨s, _, ?_, q⟩
    rw [List.getElem?_zipWith, h1, List.getElem?_range (List.getElem?_eq_some_iff.mp h1).1]
theorem wk_zip {K : PySem.W.Frag} {O : List Addr} {a b : Addr} {xs ys : List V} {ds es : List D} (h : L2.SqL K (cut H O) a xs) (h' : L2.SqL K (cut H O) b ys) (r : Reps P.G (cut H O) xs ds) (r' : Reps P.G (cut H O) ys es) : Wk P O H (Itz K a b) (ds.zipWith (fun x y => D.tup [x, y]) es) :=
  wk_of (walk_zip rfl) (by simp [r.length, r'.length]) (fun O' H' e => ⟨SqL.full (SqL.mono e.cuts h), SqL.full (SqL.mono e.cuts h')⟩) fun i O' H' v H'' hi e od ⟨T, x, y, e1, hT, e2, e3, e4⟩ => by
    subst e1 e2
    obtain ⟨d, h1, h2⟩ := (e.reps r).getV e3
    obtain ⟨d', h1', h2'⟩ := (e.reps r').getV e4
    obtain ⟨s, q⟩ := pair_new (P := P) od hT h2 h2'
    refine ⟨s, _, ?_, q⟩
    rw [List.getElem?_zipWith, h1, h1']
end
end DL
namespace DL
open PySem L2
section
variable {X : Cx} {W : WX} {P : Pm} {Γ : Ctx} {Φ : Nat → Fn} {k : Nat} {tg : Expr}
theorem wk_zipT {H : Hp} {K : PySem.W.Frag} {O : List Addr} {a b : Addr} {xs ys : List V} {ds es : List D} (h : L2.SqT K (cut H O) a xs) (h' : L2.SqT K (cut H O) b ys) (r : Reps P.G (cut H O) xs ds) (r' : Reps P.G (cut H O) ys es) : Wk P O H (RZ.ItzT K a b) (ds.zipWith (fun x y => D.tup [x, y]) es) := by
  have ln : (ds.zipWith (fun x y => D.tup [x, y]) es).length = min xs.length ys.length := by simp [r.length, r'.length]
  refine ⟨fun i O' H' hi e => ?_, fun O' H' e => ?_, fun i O' H' v H'' hi e od y => ?_⟩
  · rw [ln] at hi
    have h1 : i < xs.length := by omega
    have h2 : i < ys.length := by omega
    exact ⟨xs, ys, xs[i], ys[i], SqT.full (SqT.mono e.cuts h), SqT.full (SqT.mono e.cuts h'), by simp [h1], by simp [h2]⟩
  · refine ⟨xs, ys, SqT.full (SqT.mono e.cuts h), SqT.full (SqT.mono e.cuts h'), ?_⟩
    rw [ln]; omega
  · obtain ⟨T, x, y, e1, hT, e2, e3, e4⟩ := y
    subst e1 e2
    obtain ⟨d, h1, h2⟩ := (e.reps r).getV (e3 xs (SqT.full (SqT.mono e.cuts h)))
    obtain ⟨d', h1', h2'⟩ := (e.reps r').getV (e4 ys (SqT.full (SqT.mono e.cuts h')))
    obtain ⟨s, q⟩ := pair_new (P := P) od hT h2 h2'
    refine ⟨s, _, ?_, q⟩
    rw [List.getElem?_zipWith, h1, h1']
theorem sqK_mono {kd : ZX.Kd} {K : PySem.W.Frag} {H : Hp} {O O' : List Addr} {H' : Hp} {a : Addr} {xs : List V} (e : Ext O H O' H') (h : ZX.SqK kd K (cut H O) a xs) : ZX.SqK kd K H' a xs := by
  cases kd
  · exact SqL.full (SqL.mono e.cuts h)
  · exact SqT.full (SqT.mono e.cuts h)
theorem wk_zipX {kx ky : ZX.Kd} {H : Hp} {K : PySem.W.Frag} {O : List Addr} {a b : Addr} {xs ys : List V} {ds es : List D} (h : ZX.SqK kx K (cut H O) a xs) (h' : ZX.SqK ky K (cut H O) b ys) (r : Reps P.G (cut H O) xs ds) (r' : Reps P.G (cut H O) ys es) : Wk P O H (ZX.Itx kx ky K a b) (ds.zipWith (fun x y => D.tup [x, y]) es) := by
  have ln : (ds.zipWith (fun x y => D.tup [x, y]) es).length = min xs.length ys.length := by simp [r.length, r'.length]
  refine ⟨fun i O' H' hi e => ?_, fun O' H' e => ?_, fun i O' H' v H'' hi e od y => ?_⟩
  · rw [ln] at hi
    have h1 : i < xs.length := by omega
    have h2 : i < ys.length := by omega
    exact ⟨xs, ys, xs[i], ys[i], sqK_mono e h, sqK_mono e h', by simp [h1], by simp [h2]⟩
  · refine ⟨xs, ys, sqK_mono e h, sqK_mono e h', ?_⟩
    rw [ln]; omega
  · obtain ⟨T, x, y, e1, hT, e2, e3, e4⟩ := y
    subst e1 e2
    obtain ⟨d, h1, h2⟩ := (e.reps r).getV (e3 xs (sqK_mono e h))
    obtain ⟨d', h1', h2'⟩ := (e.reps r').getV (e4 ys (sqK_mono e h'))
    obtain ⟨s, q⟩ := pair_new (P := P) od hT h2 h2'
    refine ⟨s, _, ?_, q⟩
    rw [List.getElem?_zipWith, h1, h1']
/-- the walked source -/
def srcR (Φ : Nat → Fn) (kd : Sk) (src : List E) (ρ : Sts) : R Sts (List D × Sts) := (evVs Φ src ρ).bind fun p => match srcf kd p.1 with
  | some items => .ok (items, p.2)
  | none => .bad
def tSrc (P : Pm) (W : WX) (Φ : Nat → Fn) (kd : Sk) (src : List E) : TI := fun σ H R => ∃ O ρ, Rel P O ρ σ H ∧ Aft P W σ O H (srcR Φ kd src ρ) fun items ρ' O' H' => ∀ J, Wk P O' H' J items → R J H'
theorem _root_.L2.PI.weak {X : Cx} {tg e : Expr} {t t' : TI} (h : PI X tg e t) (k : ∀ σ H Q, t' σ H Q → t σ H Q) : PI X tg e t' := ⟨fun pins s σ H R I z => h.run pins s σ H R I (k _ _ _ z)⟩
theorem pi_or {e : Expr} {t t' : TI} (h : PI X tg e t) (h' : PI X tg e t') : PI X tg e (fun σ H R => t σ H R ∨ t' σ H R) := ⟨fun pins s σ H R I z => z.elim (h.run pins s σ H R I) (h'.run pins s σ H R I)⟩
theorem _root_.DL.Aft.eq {α : Type} {σ : St} {O : List Addr} {H : Hp} {r : R Sts (α × Sts)} {kk : α → Sts → List Addr → Hp → Prop} (h : Aft P W σ O H r kk) : Aft P W σ O H r fun a ρ' O' H' => r = .ok (a, ρ') ∧ kk a ρ' O' H' := by
  cases r with
  | ok p => exact fun O' H' Z x => ⟨rfl, h O' H' Z x⟩
  | exc c x ρ' => exact h
  | bad => exact h
theorem evVs_len : ∀ {es : List E} {ρ : Sts} {p : List D × Sts}, evVs Φ es ρ = .ok p → p.1.length = es.length
  | [], ρ, p, h => by cases h; rfl
  | e :: es, ρ, p, h => by
    replace h : ((rel (ev Φ e ρ)).bind fun p => (evVs Φ es p.2).map fun q => (p.1 :: q.1, q.2)) = .ok p := h
    cases h1 : rel (ev Φ e ρ) with
    | exc _ _ _ => rw [h1] at h; cases h
    | bad => rw [h1] at h; cases h
    | ok p1 =>
      rw [h1, R.bind_ok] at h
      cases h2 : evVs Φ es p1.2 with
      | exc _ _ _ => rw [h2] at h; cases h
      | bad => rw [h2] at h; cases h
      | ok p2 =>
        rw [h2, R.map_ok] at h
        cases h
        simp [evVs_len h2]
theorem src_rd {σ : St} {H : Hp} {kd : Sk} {src : List E} {R : It → Hp → Prop} (h : tSrc P W Φ kd src σ H R) : tVs P W (fun ρ => evVs Φ src ρ) σ H fun vs H1 => ∃ O ds items, ds.length = src.length ∧ Reps P.G (cut H1 O) vs ds ∧ srcf kd ds = some items ∧ ∀ J, Wk P O H1 J items → R J H1 := by
  obtain ⟨O, ρ, Z, a⟩ := h
  refine ⟨O, ρ, Z, ?_⟩
  unfold srcR at a
  refine a.bind.eq.imp fun ds ρ1 O1 H1 R1 _ ⟨eq, q⟩ vs rv => ?_
  dsimp only at q
  split at q
  · rename_i items hi
    exact ⟨O1, ds, items, evVs_len eq, rv, hi, Aft.now (P := P) (W := W) (α := List D) q R1⟩
  · exact q.elim
theorem evVs1 {c : E} {ρ : Sts} : evVs Φ [c] ρ = (rel (ev Φ c ρ)).map fun p => ([p.1], p.2) := by
  show ((rel (ev Φ c ρ)).bind fun p => (R.ok ([], p.2)).map fun q => (p.1 :: q.1, q.2)) = _
  cases rel (ev Φ c ρ) <;> rfl
theorem get1s {G : Gx} {H : Hp} {vs : List V} {d : D} (r : Reps G H vs [d]) : ∃ v, vs = [v] ∧ Rep G H v d := by
  cases r with
  | cons h r => cases r; exact ⟨_, rfl, h⟩
theorem pi_it {e : Expr} {c : E} (hK : P.G.K = X.K) (h : PE X e (tE P W Φ c)) : PI X tg e (tSrc P W Φ .it [c]) := by
  have hv := tV_of h
  refine (pi_or (pi_list (tg := tg) hv) (pi_or (pi_tup (tg := tg) hv) (pi_str (tg := tg) hv))).weak fun σ H RR ⟨O, ρ, Z, a⟩ => ?_
  -- by what it gives
  have key : ∀ {d : D} {ρ' : Sts}, rel (ev Φ c ρ) = .ok (d, ρ') → ∀ {Q : VK}, (∀ O' H', Rel P O' ρ' σ H' → Ext O H O' H' → ∀ v, Rep P.G (cut H' O') v d → Q v H') → tV P W (fun ρ => rel (ev Φ c ρ)) σ H Q := fun {d ρ'} e {Q} q => ⟨O, ρ, Z, by
    dsimp only; rw [e]; exact q⟩
  unfold srcR at a
  rw [evVs1] at a
  cases e : rel (ev Φ c ρ) with
  | bad => rw [e] at a; exact a.elim
  | exc cc x ρ' =>
    rw [e] at a
    exact .inl ⟨O, ρ, Z, by dsimp only; rw [e]; exact a⟩
  | ok p =>
    obtain ⟨d, ρ'⟩ := p
    rw [e] at a
    replace a : Aft P W σ O H (match srcf .it [d] with
      | some items => (R.ok (items, ρ') : R Sts (List D × Sts))
      | none => .bad) fun items ρ' O' H' => ∀ J, Wk P O' H' J items → RR J H' := a
    cases d with
    | lst xs =>
      refine .inl (key e fun O' H' Z' x v r => ?_)
      cases r with
      | lst q r => exact ⟨_, rfl, ⟨_, .of (cut_le q)⟩, a O' H' Z' x _ (wk_list (.of q) r)⟩
    | rol xs =>
      refine .inl (key e fun O' H' Z' x v r => ?_)
      cases r with
      | rol q r => exact ⟨_, rfl, ⟨_, SqL.full (hK ▸ q)⟩, a O' H' Z' x _ (wk_list (hK ▸ q) r)⟩
    | tup xs =>
      refine .inr (.inl (key e fun O' H' Z' x v r => ?_))
      cases r with
      | tup q r => exact ⟨_, rfl, ⟨_, SqT.full (hK ▸ q)⟩, a O' H' Z' x _ (wk_tup (hK ▸ q) r)⟩
    | str z =>
      refine .inr (.inr (key e fun O' H' Z' x v r => ?_))
      cases r with
      | str => exact ⟨_, rfl, a O' H' Z' x _ wk_str⟩
    | non => exact a.elim
    | bl _ => exact a.elim
    | int _ => exact a.elim
    | dic _ => exact a.elim
    | fn _ => exact a.elim
    | ty _ => exact a.elim
theorem rng_of {i j : Int} {items : List D} (h : rngf i j = some items) : (-(2 ^ 62) ≤ i ∧ i < 2 ^ 62 ∧ -(2 ^ 62) ≤ j ∧ j < 2 ^ 62) ∧ items = (List.range (j - i).toNat).map fun k => D.int (i + (k : Nat)) := by
  unfold rngf at h
  split at h
  · rename_i c
    exact ⟨by omega, (Option.some.inj h).symm⟩
  · cases h
theorem pi_rng1 {a : Expr} {c : E} {p pos : Pos} (ok : Ok X W P Γ Φ k) (hx : Γ.bi "range" = true) (hn : nst a = true) (ha : Snd X P W Φ a c) : PI X tg (.Call (.Name "range" p) [a] [] pos) (tSrc P W Φ .rng [c]) := by
  obtain ⟨g1, g2, g3, g4⟩ := ok.bi hx
  refine (pi_range1 g1 g4 (SndL.cons hn ha .nil).vs (starEach_nst hn _ _)).weak fun σ H R h => (src_rd h).imp fun vs H1 ⟨O, ds, items, hl, r, hs, q⟩ => ?_
  match ds, hl, hs with
  | [.int j], _, hs =>
    obtain ⟨h1, rfl⟩ := rng_of hs
    obtain ⟨v, rfl, rv⟩ := get1s r
    cases rv
    refine ⟨j, rfl, h1.2.2.1, h1.2.2.2, q _ ?_⟩
    have := wk_range (P := P) (O := O) (H := H1) (lo := 0) (n := (j - 0).toNat)
    simpa using this
theorem pi_rng2 {a b : Expr} {c d : E} {p pos : Pos} (ok : Ok X W P Γ Φ k) (hx : Γ.bi "range" = true) (hn : nst a = true) (hn2 : nst b = true) (ha : Snd X P W Φ a c) (hb : Snd X P W Φ b d) : PI X tg (.Call (.Name "range" p) [a, b] [] pos) (tSrc P W Φ .rng [c, d]) := by
  obtain ⟨g1, g2, g3, g4⟩ := ok.bi hx
  refine (pi_range2 g1 g4 (SndL.cons hn ha (.cons hn2 hb .nil)).vs (by rw [starEach_nst hn, starEach_nst hn2]; rfl) (by rw [starEach_nst hn2]; rfl)).weak fun σ H R h => (src_rd h).imp fun vs H1 ⟨O, ds, items, hl, r, hs, q⟩ => ?_
  match ds, hl, hs with
  | [.int i, .int j], _, hs =>
    obtain ⟨h1, rfl⟩ := rng_of hs
    cases r with
    | cons r1 r =>
      obtain ⟨v, rfl, rv⟩ := get1s r
      cases r1
      cases rv
      exact ⟨i, j, rfl, h1, q _ wk_range⟩
theorem rangeSize_nn {i j c : Int} (h : c ≠ 0) : 0 ≤ Builtin.Range.rangeSize i j c := by
  unfold Builtin.Range.rangeSize
  split
  · split
    · have : 0 ≤ (j - i - 1) / c := Int.ediv_nonneg (by omega) (by omega)
      omega
    · omega
  · split
    · have : 0 ≤ (i - j - 1) / (-c) := Int.ediv_nonneg (by omega) (by omega)
      omega
    · omega
theorem pi_rng3 {a b c : Expr} {ca cb cc : E} {p pos : Pos} (ok : Ok X W P Γ Φ k) (hx : Γ.bi "range" = true) (hn : nst a = true) (hn2 : nst b = true) (hn3 : nst c = true) (ha : Snd X P W Φ a ca) (hb : Snd X P W Φ b cb) (hc : Snd X P W Φ c cc) : PI X tg (.Call (.Name "range" p) [a, b, c] [] pos) (tSrc P W Φ .rng [ca, cb, cc]) := by
  obtain ⟨g1, g2, g3, g4⟩ := ok.bi hx
  refine (pi_range3 g1 g4 (SndL.cons hn ha (.cons hn2 hb (.cons hn3 hc .nil))).vs (by rw [starEach_nst hn, starEach_nst hn2, starEach_nst hn3]) (by rw [starEach_nst hn2, starEach_nst hn3]; rfl)).weak fun σ H R h => (src_rd h).imp fun vs H1 ⟨O, ds, items, hl, r, hs, q⟩ => ?_
  match ds, hl, hs with
  | [.int i, .int j, .int m], _, hs =>
    replace hs : (if (i.natAbs < 2 ^ 62 ∧ j.natAbs < 2 ^ 62) ∧ m ≠ 0 ∧ m.natAbs < 1073741824 ∧ Builtin.Range.small i j m = true then some ((List.range (Builtin.Range.rangeSize i j m).toNat).map fun k => D.int (i + (k : Nat) * m)) else none) = some items := hs
    split at hs
    · rename_i hcnd
      replace hcnd := hcnd.2
      cases hs
      cases r with
      | cons r1 r =>
        cases r with
        | cons r2 r =>
          obtain ⟨v, rfl, rv⟩ := get1s r
          cases r1
          cases r2
          cases rv
          refine ⟨i, j, m, (Builtin.Range.rangeSize i j m).toNat, rfl, ⟨hcnd.1, hcnd.2.1, hcnd.2.2, ?_⟩, q _ ?_⟩
          · have := rangeSize_nn (i := i) (j := j) hcnd.1
            omega
          · refine ⟨fun i' O' H' hi _ => ?_, fun O' H' _ => ?_, fun i' O' H' v H'' hi e _ y => ?_⟩
            · show i' < _
              simpa using hi
            · show _ ≤ _
              simp
            · obtain ⟨e1, e2⟩ := y
              subst e1 e2
              rw [List.length_map, List.length_range] at hi
              exact ⟨same_refl, .int (i + (i' : Nat) * m), by rw [List.getElem?_map, List.getElem?_range hi]; rfl, .int _⟩
    · cases hs
  | [], hl, _ => cases hl
theorem pi_enumD {a : Expr} {c : E} {p pos tpos : Pos} {elts : List Expr} {kk : Nat} (ok : Ok X W P Γ Φ k) (hx : Γ.bi "enumerate" = true) (hn : nst a = true) (ha : Snd X P W Φ a c) : PI X (.Tuple elts kk tpos) (.Call (.Name "enumerate" p) [a] [] pos) (tSrc P W Φ .enum [c]) := by
  obtain ⟨g1, g2, g3, g4⟩ := ok.bi hx
  refine (pi_enum g1 g4 (SndL.cons hn ha .nil).vs (starEach_nst hn _ _)).weak fun σ H R h => (src_rd h).imp fun vs H1 ⟨O, ds, items, hl, r, hs, q⟩ => ?_
  match ds, hl, hs with
  | [.lst xs], _, hs =>
    cases hs
    obtain ⟨v, rfl, rv⟩ := get1s r
    cases rv with
    | lst q1 r1 => exact ⟨_, _, rfl, .of (cut_le q1), q _ (wk_enum (.of q1) r1)⟩
theorem pi_zipD {a b : Expr} {c d : E} {p pos tpos : Pos} {elts : List Expr} {kk : Nat} (ok : Ok X W P Γ Φ k) (hx : Γ.bi "zip" = true) (hn : nst a = true) (hn2 : nst b = true) (ha : Snd X P W Φ a c) (hb : Snd X P W Φ b d) : PI X (.Tuple elts kk tpos) (.Call (.Name "zip" p) [a, b] [] pos) (tSrc P W Φ .zip [c, d]) := by
  obtain ⟨g1, g2, g3, g4⟩ := ok.bi hx
  have vs := (SndL.cons hn ha (.cons hn2 hb .nil)).vs
  refine (pi_or (RZ.pi_zipA g1 g4 vs (by rw [starEach_nst hn]) (by rw [starEach_nst hn2]; rfl)) (ZX.pi_x g1 g4 vs (by rw [starEach_nst hn]) (by rw [starEach_nst hn2]; rfl))).weak fun σ H RR h => ?_
  -- by what is zipped
  obtain ⟨O, ρ, Z, aa⟩ := h
  unfold srcR at aa
  cases e : evVs Φ [c, d] ρ with
  | bad => rw [e] at aa; exact aa.elim
  | exc cc x ρ' =>
    rw [e] at aa
    exact .inl ⟨O, ρ, Z, by dsimp only; rw [e]; exact aa⟩
  | ok pp =>
    obtain ⟨dd, ρ'⟩ := pp
    rw [e] at aa
    replace aa : Aft P W σ O H (match srcf .zip dd with
      | some items => (R.ok (items, ρ') : R Sts (List D × Sts))
      | none => .bad) fun items ρ' O' H' => ∀ J, Wk P O' H' J items → RR J H' := aa
    have key : ∀ (Q : List V → Hp → Prop), (∀ O' H', Rel P O' ρ' σ H' → Ext O H O' H' → ∀ vs, Reps P.G (cut H' O') vs dd → Q vs H') → tVs P W (fun ρ => evVs Φ [c, d] ρ) σ H Q := fun Q q => ⟨O, ρ, Z, by
      dsimp only; rw [e]; exact q⟩
    match dd, aa, key with
    | [.lst xs, .lst ys], aa, key =>
      refine .inl (key _ fun O' H' Z' x vs r => ?_)
      cases r with
      | cons r1 r =>
        obtain ⟨v, rfl, rv⟩ := get1s r
        cases r1 with
        | lst p1 s1 => cases rv with
          | lst p2 s2 => exact ⟨_, _, _, _, rfl, .inl ⟨.of (cut_le p1), .of (cut_le p2), aa O' H' Z' x _ (wk_zip (.of p1) (.of p2) s1 s2)⟩⟩
    | [.tup xs, .tup ys], aa, key =>
      refine .inl (key _ fun O' H' Z' x vs r => ?_)
      cases r with
      | cons r1 r =>
        obtain ⟨v, rfl, rv⟩ := get1s r
        cases r1 with
        | tup p1 s1 => cases rv with
          | tup p2 s2 => exact ⟨_, _, _, _, rfl, .inr ⟨ok.K ▸ SqT.full p1, ok.K ▸ SqT.full p2, aa O' H' Z' x _ (ok.K ▸ wk_zipT p1 p2 s1 s2)⟩⟩
    | [.lst xs, .tup ys], aa, key =>
      refine .inr (key _ fun O' H' Z' x vs r => ?_)
      cases r with
      | cons r1 r =>
        obtain ⟨v, rfl, rv⟩ := get1s r
        cases r1 with
        | lst p1 s1 => cases rv with
          | tup p2 s2 => exact ⟨.l, .t, _, _, _, _, rfl, .inl ⟨rfl, rfl⟩, .of (cut_le p1), ok.K ▸ SqT.full p2, aa O' H' Z' x _ (wk_zipX (kx := .l) (ky := .t) (.of p1) (ok.K ▸ p2) s1 s2)⟩
    | [.tup xs, .lst ys], aa, key =>
      refine .inr (key _ fun O' H' Z' x vs r => ?_)
      cases r with
      | cons r1 r =>
        obtain ⟨v, rfl, rv⟩ := get1s r
        cases r1 with
        | tup p1 s1 => cases rv with
          | lst p2 s2 => exact ⟨.t, .l, _, _, _, _, rfl, .inr ⟨rfl, rfl⟩, ok.K ▸ SqT.full p1, .of (cut_le p2), aa O' H' Z' x _ (wk_zipX (kx := .t) (ky := .l) (ok.K ▸ p1) (.of p2) s1 s2)⟩
    | [], aa, _ => exact aa.elim
    | [x], aa, _ => cases x <;> exact aa.elim
    | x :: y :: z :: l, aa, _ => cases x <;> cases y <;> exact aa.elim
    | [.non, _], aa, _ | [.bl _, _], aa, _ | [.int _, _], aa, _ | [.str _, _], aa, _ | [.dic _, _], aa, _ | [.fn _, _], aa, _ | [.ty _, _], aa, _ | [.rol _, _], aa, _ => exact aa.elim
    | [.lst _, .non], aa, _ | [.lst _, .bl _], aa, _ | [.lst _, .int _], aa, _ | [.lst _, .str _], aa, _ | [.lst _, .dic _], aa, _ | [.lst _, .fn _], aa, _ | [.lst _, .ty _], aa, _ | [.lst _, .rol _], aa, _ => exact aa.elim
    | [.tup _, .non], aa, _ | [.tup _, .bl _], aa, _ | [.tup _, .int _], aa, _ | [.tup _, .str _], aa, _ | [.tup _, .dic _], aa, _ | [.tup _, .fn _], aa, _ | [.tup _, .ty _], aa, _ | [.tup _, .rol _], aa, _ => exact aa.elim
end
end DL
namespace DL
open PySem L2
/-! ## comprehensions -/
def Pm.hid (P : Pm) (D : Addr) (o : HO) : Pm := { P with H0 := upd P.H0 D o, ex := D :: P.ex }
section
variable {P : Pm} {O : List Addr} {ρ : Sts} {σ : St} {H : Hp} {D : Addr} {o o' : HO}
theorem Rel.hidNew (R : Rel P O ρ σ H) (hD : H D = none) (m : Mut (some o)) : Rel (P.hid D o) (D :: O) ρ σ (upd H D o) := by
  obtain ⟨f1, f2, f3⟩ := R.fresh hD
  have N := R.new hD m
  refine ⟨N.len, N.val, fun i d e => ?_, N.io, N.dis, N.iod, fun b x h1 h2 => ?_, fun a h => ?_, N.odom, fun a h => ?_, fun a h => List.mem_cons_of_mem _ (R.sub a h)⟩
  · obtain ⟨a, h1, h2, h3, h4⟩ := N.own i d e
    refine ⟨a, h1, h2, fun z => ?_, h4⟩
    rcases List.mem_cons.mp z with rfl | z
    · obtain ⟨a', k1, k2, _⟩ := R.own i d e
      rw [h1] at k1; cases k1
      exact f1 k2
    · exact h3 z
  · replace h2 : upd P.H0 D o b = some x := h2
    by_cases hb : b = D
    · subst hb; rw [upd_same] at h2; rw [upd_same]; exact h2
    · rw [upd_ne hb] at h2
      exact N.fr b x h1 h2
  · show a ∈ D :: P.ex ∨ upd P.H0 D o a = none
    by_cases ha : a = D
    · exact .inl (by rw [ha]; exact List.mem_cons_self)
    · rw [upd_ne ha]
      exact (N.ofr a h).imp (List.mem_cons_of_mem _) id
  · rcases List.mem_cons.mp h with rfl | h
    · exact List.mem_cons_self
    · exact N.exs a h
theorem Rel.hidAt (R : Rel (P.hid D o) O ρ σ H) (hD : D ∉ P.ex) (hs : ∀ a ∈ P.ad, a ∈ P.ex) : H D = some o ∧ D ∈ O := by
  refine ⟨R.fr D o (fun m => hD (hs D m)) ?_, R.exs D List.mem_cons_self⟩
  show upd P.H0 D o D = some o
  rw [upd_same]
theorem Rel.hidChange (R : Rel (P.hid D o) O ρ σ H) (hD : D ∉ P.ex) (hs : ∀ a ∈ P.ad, a ∈ P.ex) (m : Mut (some o')) : Rel (P.hid D o') O ρ σ (upd H D o') := by
  obtain ⟨h1, h2⟩ := R.hidAt hD hs
  have ck := cut_in (H := H) (O := O) (o := o') h2
  have ot : ∀ b, b ≠ D → ∀ e, OwnAt P.G H O b e → OwnAt P.G (upd H D o') O b e := fun b hb e q => q.mono (fun x z => by rw [upd_ne hb]; exact z) (fun b x z => by rw [ck]; exact z)
  refine ⟨R.len, fun i d e => ?_, fun i d e => ?_, fun i d e => ?_, R.dis, R.iod, fun b x k1 k2 => ?_, fun a k => ?_, fun a k => ?_, R.exs, R.sub⟩
  · rw [ck]; exact R.val i d e
  · obtain ⟨a, k1, k2, k3, k4⟩ := R.own i d e
    have : a ≠ D := fun z => k3 (by rw [z]; exact List.mem_cons_self)
    exact ⟨a, k1, k2, k3, ot a this _ k4⟩
  · obtain ⟨a, k1, k2, k4⟩ := R.io i d e
    have : a ≠ D := fun z => hD (z ▸ hs a (List.mem_map.mpr ⟨_, k2, rfl⟩))
    exact ⟨a, k1, k2, ot a this _ k4⟩
  · replace k2 : upd P.H0 D o' b = some x := k2
    by_cases hb : b = D
    · subst hb; rw [upd_same] at k2; rw [upd_same]; exact k2
    · rw [upd_ne hb] at k2
      rw [upd_ne hb]
      exact R.fr b x k1 (by show upd P.H0 D o b = _; rw [upd_ne hb]; exact k2)
  · show a ∈ D :: P.ex ∨ upd P.H0 D o' a = none
    by_cases ha : a = D
    · exact .inl (by rw [ha]; exact List.mem_cons_self)
    · rw [upd_ne ha]
      have := R.ofr a k
      replace this : a ∈ D :: P.ex ∨ upd P.H0 D o a = none := this
      rw [upd_ne ha] at this
      exact this
  · by_cases hb : a = D
    · subst hb; exact ⟨o', upd_same, m⟩
    · obtain ⟨x, g1, g2⟩ := R.odom a k
      exact ⟨x, by rw [upd_ne hb]; exact g1, g2⟩
theorem Rel.hidOut (R : Rel (P.hid D o) O ρ σ H) (hD : D ∉ P.ex) (h0 : P.H0 D = none) (hs : ∀ a ∈ P.ad, a ∈ P.ex) : Rel P O ρ σ H ∧ Apart ρ σ D := by
  refine ⟨⟨R.len, R.val, fun i d e => ?_, R.io, R.dis, R.iod, fun b x k1 k2 => ?_, fun a k => ?_, R.odom, fun a k => R.exs a (List.mem_cons_of_mem _ k), hs⟩, fun i d e z => ?_⟩
  · obtain ⟨a, k1, k2, k3, k4⟩ := R.own i d e
    exact ⟨a, k1, k2, fun z => k3 (List.mem_cons_of_mem _ z), k4⟩
  · refine R.fr b x k1 ?_
    show upd P.H0 D o b = _
    rw [upd_ne (fun z => by rw [z, h0] at k2; cases k2)]; exact k2
  · by_cases ha : a = D
    · exact .inr (by rw [ha]; exact h0)
    · have := R.ofr a k
      replace this : a ∈ D :: P.ex ∨ upd P.H0 D o a = none := this
      rw [upd_ne ha] at this
      rcases this with h | h
      · rcases List.mem_cons.mp h with h | h
        · exact absurd h ha
        · exact .inl h
      · exact .inr h
  · obtain ⟨a, k1, k2, k3, k4⟩ := R.own i d e
    rw [z] at k1; cases k1
    exact k3 List.mem_cons_self
theorem wipeE_len : ∀ {vs : List Nat}, (wipeE ρ vs).length = ρ.length
  | [] => rfl
  | v :: vs => by unfold wipeE; rw [List.length_set, wipeE_len]
theorem wipeE_some {i : Nat} {s : Slot} (hs : s ≠ .emp) : ∀ {vs : List Nat}, (wipeE ρ vs)[i]? = some s → ρ[i]? = some s ∧ i ∉ vs
  | [], h => ⟨h, by simp⟩
  | v :: vs, h => by
    unfold wipeE at h
    by_cases hi : v = i
    · subst hi
      by_cases hv : v < (wipeE ρ vs).length
      · rw [List.getElem?_set_self hv] at h; cases h; exact absurd rfl hs
      · rw [List.getElem?_eq_none (by simpa using hv)] at h; cases h
    · rw [List.getElem?_set_ne hi] at h
      obtain ⟨h1, h2⟩ := wipeE_some hs h
      exact ⟨h1, by simp only [List.mem_cons, not_or]; exact ⟨fun e => hi e.symm, h2⟩⟩
theorem Rel.wipe (R : Rel P O ρ σ H) (vs : List Nat) : Rel P O (wipeE ρ vs) (L2.wipe σ vs) H := by
  refine ⟨by rw [wipeE_len, L2.wipe_length]; exact R.len, fun i d e => ?_, fun i d e => ?_, fun i d e => ?_, fun i j a s t e1 e2 q1 q2 => ?_, R.iod, R.fr, R.ofr, R.odom, R.exs, R.sub⟩
  · obtain ⟨e1, e2⟩ := wipeE_some (by simp) e
    rw [wipe_out e2]; exact R.val i d e1
  · obtain ⟨e1, e2⟩ := wipeE_some (by simp) e
    rw [wipe_out e2]; exact R.own i d e1
  · obtain ⟨e1, e2⟩ := wipeE_some (by simp) e
    rw [wipe_out e2]; exact R.io i d e1
  · obtain ⟨e3, e4⟩ := wipeE_some (by simp) e1
    obtain ⟨e5, e6⟩ := wipeE_some (by simp) e2
    rw [wipe_out e4] at q1
    rw [wipe_out e6] at q2
    exact R.dis i j a s t e3 e5 q1 q2
theorem backE_len {ρ0 : Sts} : ∀ {vs : List Nat}, (backE ρ0 ρ vs).length = ρ.length
  | [] => rfl
  | v :: vs => by unfold backE; rw [List.length_set, backE_len]
theorem backE_at {ρ0 : Sts} {i : Nat} {s : Slot} : ∀ {vs : List Nat}, (backE ρ0 ρ vs)[i]? = some s → (i ∈ vs ∧ s = ρ0.getD i .emp) ∨ (i ∉ vs ∧ ρ[i]? = some s)
  | [], h => .inr ⟨by simp, h⟩
  | v :: vs, h => by
    unfold backE at h
    by_cases hi : v = i
    · subst hi
      by_cases hv : v < (backE ρ0 ρ vs).length
      · rw [List.getElem?_set_self hv] at h; cases h; exact .inl ⟨List.mem_cons_self, rfl⟩
      · rw [List.getElem?_eq_none (by simpa using hv)] at h; cases h
    · rw [List.getElem?_set_ne hi] at h
      rcases backE_at h with ⟨h1, h2⟩ | ⟨h1, h2⟩
      · exact .inl ⟨List.mem_cons_of_mem _ h1, h2⟩
      · exact .inr ⟨by simp only [List.mem_cons, not_or]; exact ⟨fun e => hi e.symm, h1⟩, h2⟩
theorem getD_some {ρ0 : Sts} {i : Nat} {s : Slot} (hs : s ≠ .emp) (h : s = ρ0.getD i .emp) : ρ0[i]? = some s := by
  rw [List.getD_eq_getElem?_getD] at h
  cases e : ρ0[i]? with
  | none => rw [e] at h; exact absurd h hs
  | some t => rw [e] at h; rw [h]; rfl
theorem Rel.back {ρ0 : Sts} {O0 : List Addr} {H0 : Hp} {vs : List Nat} (R0 : Rel P O0 ρ0 σ H0) (hn : ownAny ρ0 vs = false) (x : Ext O0 H0 O H) (R : Rel P O ρ (L2.wipe σ vs) H) : Rel P O (backE ρ0 ρ vs) σ H := by
  have no : ∀ {i : Nat} {d : D}, i ∈ vs → (ρ0[i]? = some (.own d) ∨ ρ0[i]? = some (.io d)) → False := fun {i d} hi e => by
    have : ownAny ρ0 vs = true := List.any_eq_true.mpr ⟨i, hi, by
      unfold isOwn
      rcases e with e | e <;> rw [e] <;> rfl⟩
    rw [hn] at this; cases this
  have hv : ∀ {i : Nat} {d : D}, (backE ρ0 ρ vs)[i]? = some (.own d) → i ∉ vs ∧ ρ[i]? = some (.own d) := fun {i d} e => by
    rcases backE_at e with ⟨h1, h2⟩ | h
    · exact (no h1 (.inl (getD_some (by simp) h2))).elim
    · exact h
  refine ⟨by rw [backE_len, ← R.len, L2.wipe_length], fun i d e => ?_, fun i d e => ?_, fun i d e => ?_, fun i j a s t e1 e2 q1 q2 => ?_, R.iod, R.fr, R.ofr, R.odom, R.exs, R.sub⟩
  · rcases backE_at e with ⟨h1, h2⟩ | ⟨h1, h2⟩
    · obtain ⟨v, k1, k2⟩ := R0.val i d (getD_some (by simp) h2)
      exact ⟨v, k1, x.rep k2⟩
    · obtain ⟨v, k1, k2⟩ := R.val i d h2
      rw [wipe_out h1] at k1
      exact ⟨v, k1, k2⟩
  · obtain ⟨h1, h2⟩ := hv e
    obtain ⟨v, k1, k2⟩ := R.own i d h2
    rw [wipe_out h1] at k1
    exact ⟨v, k1, k2⟩
  · rcases backE_at e with ⟨h1, h2⟩ | ⟨h1, h2⟩
    · exact (no h1 (.inr (getD_some (by simp) h2))).elim
    · obtain ⟨v, k1, k2⟩ := R.io i d h2
      rw [wipe_out h1] at k1
      exact ⟨v, k1, k2⟩
  · obtain ⟨h1, h2⟩ := hv e1
    obtain ⟨h3, h4⟩ := hv e2
    exact R.dis i j a s t h2 h4 (by rw [wipe_out h1]; exact q1) (by rw [wipe_out h3]; exact q2)
theorem wipe_mem {i : Nat} : ∀ {vs : List Nat}, i ∈ vs → i < σ.length → (L2.wipe σ vs)[i]? = some none
  | v :: vs, h, hl => by
    unfold L2.wipe
    by_cases hi : v = i
    · subst hi; rw [List.getElem?_set_self (by rw [L2.wipe_length]; exact hl)]
    · rw [List.getElem?_set_ne hi]
      rcases List.mem_cons.mp h with h | h
      · exact absurd h.symm hi
      · exact wipe_mem h hl
theorem wipe_idem {vs : List Nat} : L2.wipe (L2.wipe σ vs) vs = L2.wipe σ vs := by
  apply List.ext_getElem?
  intro i
  by_cases hi : i ∈ vs
  · by_cases hl : i < σ.length
    · rw [wipe_mem hi hl, wipe_mem hi (by rw [L2.wipe_length]; exact hl)]
    · rw [List.getElem?_eq_none (by rw [L2.wipe_length, L2.wipe_length]; omega), List.getElem?_eq_none (by rw [L2.wipe_length]; omega)]
  · rw [wipe_out hi]
end
section
variable {X : Cx} {W : WX} {P : Pm} {Γ : Ctx} {Φ : Nat → Fn} {k : Nat}
/-- readings under a hidden object -/
def xG (P : Pm) (t : T) : TG := fun v σ H Q => ∃ P' : Pm, P'.G = P.G ∧ tGt P' t v σ H Q
def xB (P : Pm) (r : Sts → R Sts (Bool × Sts)) : TT := fun σ H Q => ∃ P' : Pm, P'.G = P.G ∧ tB P' W0 r σ H Q
def xV (P : Pm) (r : Sts → R Sts (D × Sts)) : TE := fun σ H Q => ∃ P' : Pm, P'.G = P.G ∧ tV P' W0 r σ H Q
theorem ofO_ok {ε α : Type} {o : Option α} {a : α} (h : (R.ofO o : R ε α) = .ok a) : o = some a := by
  cases o with
  | none => cases h
  | some b => cases h; rfl
theorem map_okR {ε α β : Type} {r : R ε α} {f : α → β} {b : β} (h : r.map f = .ok b) : ∃ a, r = .ok a ∧ f a = b := by
  cases r with
  | ok a => exact ⟨a, rfl, by cases h; rfl⟩
  | exc _ _ _ => cases h
  | bad => cases h
theorem aft_ok {α : Type} {σ : St} {O : List Addr} {H : Hp} {a : α} {ρ : Sts} {kk : α → Sts → List Addr → Hp → Prop} {r : R Sts (α × Sts)} (e : r = .ok (a, ρ)) (h : ∀ O' H', Rel P O' ρ σ H' → Ext O H O' H' → kk a ρ O' H') : Aft P W σ O H r kk := by
  rw [e]; exact h
theorem lc_rd {vs : List Nat} {t : T} {kd : Sk} {src ifs : List E} {elt : E} {σ : St} {H : Hp} {Q : VK} (hin : t.inn vs = true) (h : tE P W Φ (.lc vs t kd src ifs elt) σ H Q) :
    tLc (tSrc P W Φ kd src) (xG P t) (xB P fun ρ => evTs Φ ifs ρ) (xV P fun ρ => rel (ev Φ elt ρ)) vs σ H Q := by
  obtain ⟨O, ρ, Z, a⟩ := h
  refine ⟨O, ρ, Z, ?_⟩
  have a2 : Aft P W σ O H ((srcR Φ kd src ρ).bind fun p => if ownAny p.2 vs then .bad else
        (noExc (lcLoop vs t (fun ρ => evTs Φ ifs ρ) (fun ρ => rel (ev Φ elt ρ)) p.1 [] (wipeE p.2 vs))).map fun q => (.own (.lst q.1), backE p.2 q.2 vs)) fun s ρ' O' H' => ∀ v, RepR P O' ρ' σ H' v s → Q v H' := by
    have e : ev Φ (.lc vs t kd src ifs elt) ρ = ((srcR Φ kd src ρ).bind fun p => if ownAny p.2 vs then .bad else
        (noExc (lcLoop vs t (fun ρ => evTs Φ ifs ρ) (fun ρ => rel (ev Φ elt ρ)) p.1 [] (wipeE p.2 vs))).map fun q => (.own (.lst q.1), backE p.2 q.2 vs)) := by
      show ((evVs Φ src ρ).bind fun p => match srcf kd p.1 with
        | some items => if ownAny p.2 vs then .bad else
            (noExc (lcLoop vs t (fun ρ => evTs Φ ifs ρ) (fun ρ => rel (ev Φ elt ρ)) items [] (wipeE p.2 vs))).map fun q => (Slot.own (.lst q.1), backE p.2 q.2 vs)
        | none => .bad) = _
      unfold srcR
      cases evVs Φ src ρ with
      | exc _ _ _ => rfl
      | bad => rfl
      | ok p =>
        dsimp only [R.bind]
        cases srcf kd p.1 <;> rfl
    rw [← e]; exact a
  refine a2.bind.imp fun items ρ1 O1 H1 R1 _ q J wk D hD => ?_
  dsimp only at q
  split at q
  · exact q.elim
  rename_i hno
  have hno : ownAny ρ1 vs = false := by simpa using hno
  -- the loop comes to an end
  obtain ⟨p, hL⟩ : ∃ p, lcLoop vs t (fun ρ => evTs Φ ifs ρ) (fun ρ => rel (ev Φ elt ρ)) items [] (wipeE ρ1 vs) = .ok p := by
    cases hl : lcLoop vs t (fun ρ => evTs Φ ifs ρ) (fun ρ => rel (ev Φ elt ρ)) items [] (wipeE ρ1 vs) with
    | ok p => exact ⟨p, rfl⟩
    | exc _ _ _ => rw [hl] at q; exact q.elim
    | bad => rw [hl] at q; exact q.elim
  rw [hL] at q
  replace q : ∀ O' H', Rel P O' (backE ρ1 p.2 vs) σ H' → Ext O1 H1 O' H' → ∀ v, RepR P O' (backE ρ1 p.2 vs) σ H' v (.own (.lst p.1)) → Q v H' := q
  obtain ⟨f1, f2, f3⟩ := R1.fresh hD
  have hs := R1.sub
  let Pv : Nat → Hp → Prop := fun i H => ∃ acc accD ρi O', lcLoop vs t (fun ρ => evTs Φ ifs ρ) (fun ρ => rel (ev Φ elt ρ)) (items.drop i) accD ρi = .ok p ∧ Rel (P.hid D (.lst acc)) O' ρi (L2.wipe σ vs) H ∧ Ext O1 H1 O' H ∧ Reps P.G (cut H O') acc accD
  refine ⟨fun i m H => m = items.length - i ∧ i ≤ items.length ∧ Pv i H, ⟨items.length, by simp, Nat.zero_le _, [], [], wipeE ρ1 vs, D :: O1, hL, (R1.wipe vs).hidNew hD trivial, ext_new hD, .nil⟩, ?_⟩
  rintro i m H2 ⟨rfl, hi, acc, accD, ρi, O2, e2, R2, x2, r2⟩
  by_cases hlt : i < items.length
  · refine .inr ⟨wk.go i O2 H2 hlt x2, Pv (i + 1), fun H' p' => ⟨items.length - (i + 1), by omega, rfl, hlt, p'⟩, fun x H3 y => ?_⟩
    obtain ⟨s3, d, hd, rd⟩ := wk.yld i O2 H2 x H3 hlt x2 R2.odom y
    have R3 := R2.same s3
    have x3 : Ext O2 H2 O2 H3 := .same s3
    rw [List.drop_eq_getElem_cons hlt] at e2
    have hd' : items[i] = d := by
      rw [List.getElem?_eq_getElem hlt] at hd; exact Option.some.inj hd
    rw [hd'] at e2
    replace e2 : ((R.ofO (assignT t (.val d) ρi)).bind fun ρ1 => (evTs Φ ifs ρ1).bind fun p =>
      if p.1 then (rel (ev Φ elt p.2)).bind fun q => if accD.length < Line then lcLoop vs t (fun ρ => evTs Φ ifs ρ) (fun ρ => rel (ev Φ elt ρ)) (items.drop (i + 1)) (accD ++ [q.1]) (wipeE q.2 vs) else .bad
      else lcLoop vs t (fun ρ => evTs Φ ifs ρ) (fun ρ => rel (ev Φ elt ρ)) (items.drop (i + 1)) accD (wipeE p.2 vs)) = .ok p := e2
    obtain ⟨ρ3, e3, e2⟩ := bind_okR e2
    have e3 := ofO_ok e3
    obtain ⟨⟨b, ρ4⟩, e4, e2⟩ := bind_okR e2
    refine ⟨P.hid D (.lst acc), rfl, O2, ρi, .val d, ρ3, R3, rd, e3, fun O4 σ4 R4 x4 w4 => ⟨?_, ?_⟩⟩
    · rw [w4 vs hin, wipe_idem]
    have hw : L2.wipe σ4 vs = L2.wipe σ vs := by rw [w4 vs hin, wipe_idem]
    refine ⟨P.hid D (.lst acc), rfl, O4, ρ3, R4, aft_ok e4 fun O5 H5 R5 x5 => ?_⟩
    have x25 := x2.trans (x3.trans (x4.trans x5))
    dsimp only at e2
    cases b with
    | false =>
      rw [if_neg Bool.false_ne_true] at e2
      show Pv (i + 1) H5
      have R6 := R5.wipe vs
      rw [hw] at R6
      exact ⟨acc, accD, _, O5, e2, R6, x25, ((x3.trans x4).trans x5).reps r2⟩
    | true =>
      rw [if_pos rfl] at e2
      show xV P (fun ρ => rel (ev Φ elt ρ)) σ4 H5 fun y H4 => ∃ acc, H4 D = some (HO.lst acc) ∧ acc.length < sizeLine ∧ Pv (i + 1) (upd H4 D (HO.lst (acc ++ [y])))
      obtain ⟨⟨z, ρ6⟩, e6, e2⟩ := bind_okR e2
      refine ⟨P.hid D (.lst acc), rfl, O5, ρ4, R5, aft_ok e6 fun O6 H6 R6 x6 v rv => ?_⟩
      dsimp only at e2
      split at e2
      · rename_i hlen
        obtain ⟨hh, hm⟩ := R6.hidAt f2 hs
        have ra := ((x3.trans x4).trans (x5.trans x6)).reps r2
        have hz : sizeLine = 16777216 := sizeLine_eq
        refine ⟨acc, hh, by rw [hz, ra.length]; exact hlen, ?_⟩
        have R7 := (R6.hidChange (o' := .lst (acc ++ [v])) f2 hs trivial).wipe vs
        rw [hw] at R7
        refine ⟨acc ++ [v], accD ++ [z], _, O6, e2, R7, (x25.trans x6).trans (ext_in hm), ?_⟩
        rw [cut_in hm]
        exact ra.append (.cons rv .nil)
      · cases e2
  · have e : i = items.length := by omega
    subst e
    refine .inl ⟨wk.stop O2 H2 x2, ?_⟩
    rw [List.drop_length] at e2
    cases e2
    obtain ⟨hh, hm⟩ := R2.hidAt f2 hs
    obtain ⟨R3, ap⟩ := R2.hidOut f2 f3 hs
    have R4 := R1.back hno x2 R3
    refine q O2 H2 R4 x2 _ ⟨D, rfl, hm, f2, fun i d e z => ?_, acc, hh, r2⟩
    obtain ⟨a, k1, k2, k3, _⟩ := R4.own i d e
    rw [z] at k1; cases k1
    -- an own name that holds the new list: no
    rcases backE_at e with ⟨h1, h2⟩ | ⟨h1, h2⟩
    · have := getD_some (by simp) h2
      obtain ⟨a', q1, q2, _⟩ := R1.own i d this
      rw [z] at q1; cases q1
      exact f1 q2
    · exact ap i d h2 (by rw [wipe_out h1]; exact z)
end
end DL
namespace DL
open PySem L2
section
variable {X : Cx} {W : WX} {P : Pm} {Γ : Ctx} {Φ : Nat → Fn} {k : Nat}
def tstPlain : Expr → Bool
  | .UnaryOp .Not _ _ => false
  | .BoolOp .. => false
  | .IfExp .. => false
  | .Compare .. => false
  | _ => true
theorem isTrue_plain {e : Expr} (h : tstPlain e = true) (env : PySem.Env) : ∀ whole, isTrue e env whole = (do let v ← whole; standAt e.pos; holding [v] (truthy v)) := by
  intro whole
  cases e <;> first
    | rfl
    | cases h
    | (rename_i o a p; cases o <;> first | rfl | cases h)
theorem set_plain {e : Expr} (h : isDisp e = false) (env : PySem.Env) : ∀ x, foldedSetIterable e env x = pure x := by
  intro x
  cases e <;> first | rfl | cases h
def isBool : Expr → Bool
  | .BoolOp .. => true
  | _ => false
/-- both readings -/
structure Both (X : Cx) (P : Pm) (W : WX) (Φ : Nat → Fn) (tst : Bool) (e : Expr) (c : E) : Prop where
  val : tst = false → Snd X P W Φ e c
  pw : tst = true → isBool e = true → PW X e (tT P W Φ c)
  tst : tst = true → PT X e (tT P W Φ c)
theorem both_of {e : Expr} {c : E} {tst : Bool} (hK : P.G.K = X.K) (ht : tstPlain e = true) (h : PE X e (tE P W Φ c)) (hn : ∀ i, c ≠ .var i) : Both X P W Φ tst e c :=
  ⟨fun _ => ⟨h, fun i z => absurd z (hn i)⟩, fun _ hb => (by
    cases e <;> first
      | (cases hb; done)
      | (cases ht; done)), fun _ => pt_val' hK h (isTrue_plain ht _)⟩
theorem mkB {e : Expr} {c : E} {tst : Bool} (hb : isBool e = false) (h1 : tst = false → Snd X P W Φ e c) (h2 : tst = true → PT X e (tT P W Φ c)) : Both X P W Φ tst e c := ⟨h1, fun _ z => (by rw [hb] at z; cases z), h2⟩
theorem mkW {e : Expr} {c : E} {tst : Bool} (h1 : tst = false → Snd X P W Φ e c) (h2 : tst = true → PW X e (tT P W Φ c)) : Both X P W Φ tst e c := ⟨h1, fun z _ => h2 z, fun z => (h2 z).pt⟩
theorem snd_of {e : Expr} {c : E} (h : PE X e (tE P W Φ c)) (hn : ∀ i, c ≠ .var i) : Snd X P W Φ e c := ⟨h, fun i z => absurd z (hn i)⟩
def Ih (n : Nat) : Prop := ∀ {X : Cx} {W : WX} {P : Pm} {Γ : Ctx} {Φ : Nat → Fn} {k : Nat} (tst : Bool) (e : Expr) (c : E), Ok X W P Γ Φ k → cmpE n Γ tst e = some c → Both X P W Φ tst e c
theorem map_snd {n : Nat} (ih : Ih n) (ok : Ok X W P Γ Φ k) : ∀ {es : List Expr} {cs : List E}, es.all nst = true → mapO (cmpE n Γ false) es = some cs → SndL X P W Φ es cs
  | [], cs, _, h => by cases h; exact .nil
  | e :: es, cs, hn, h => by
    rw [List.all_cons, Bool.and_eq_true] at hn
    unfold mapO at h
    split at h
    · rename_i b bs h1 h2
      cases h
      exact .cons hn.1 ((ih false e b ok h1).val rfl) (map_snd ih ok hn.2 h2)
    · cases h
theorem src_snd {n : Nat} (ih : Ih n) (ok : Ok X W P Γ Φ k) {tg it : Expr} {kd : Sk} {src : List E} (h : srcE (cmpE n Γ false) Γ tg it = some (kd, src)) : PI X tg it (tSrc P W Φ kd src) := by
  have plain : ∀ {it : Expr} {kd : Sk} {src : List E}, (cmpE n Γ false it).map (fun c => (Sk.it, [c])) = some (kd, src) → PI X tg it (tSrc P W Φ kd src) := fun {it kd src} h => by
    obtain ⟨c, h1, h2⟩ := Option.map_eq_some_iff.mp h
    cases h2
    exact pi_it ok.K ((ih false it c ok h1).val rfl).pe
  unfold srcE at h
  split at h
  · rename_i x p a pos
    split at h
    · rename_i hx
      subst hx
      split at h
      · rename_i hc
        rw [Bool.and_eq_true] at hc
        obtain ⟨c, h1, h2⟩ := Option.map_eq_some_iff.mp h
        cases h2
        exact pi_rng1 ok hc.2 hc.1 ((ih false a c ok h1).val rfl)
      · cases h
    · split at h
      · rename_i hx
        subst hx
        split at h
        · rename_i hc
          simp only [Bool.and_eq_true] at hc
          obtain ⟨c, h1, h2⟩ := Option.map_eq_some_iff.mp h
          cases h2
          have ht := hc.2
          cases tg with
          | Tuple _ _ _ => exact pi_enumD ok hc.1.2 hc.1.1 ((ih false a c ok h1).val rfl)
          | _ => cases ht
        · cases h
      · exact plain h
  · rename_i x p a b pos
    split at h
    · rename_i hx
      subst hx
      split at h
      · rename_i hc
        simp only [Bool.and_eq_true] at hc
        split at h
        · rename_i c d h1 h2
          cases h
          exact pi_rng2 ok hc.2 hc.1.1 hc.1.2 ((ih false a c ok h1).val rfl) ((ih false b d ok h2).val rfl)
        · cases h
      · cases h
    · split at h
      · rename_i hx
        subst hx
        split at h
        · rename_i hc
          simp only [Bool.and_eq_true] at hc
          split at h
          · rename_i c d h1 h2
            cases h
            have ht := hc.2
            cases tg with
            | Tuple _ _ _ => exact pi_zipD ok hc.1.2 hc.1.1.1 hc.1.1.2 ((ih false a c ok h1).val rfl) ((ih false b d ok h2).val rfl)
            | _ => cases ht
          · cases h
        · cases h
      · exact plain h
  · rename_i x p a b c pos
    split at h
    · rename_i hx
      subst hx
      split at h
      · rename_i hc
        simp only [Bool.and_eq_true] at hc
        split at h
        · rename_i ca cb cc h1 h2 h3
          cases h
          exact pi_rng3 ok hc.2 hc.1.1.1 hc.1.1.2 hc.1.2 ((ih false a ca ok h1).val rfl) ((ih false b cb ok h2).val rfl) ((ih false c cc ok h3).val rfl)
        · cases h
      · cases h
    · exact plain h
  · exact plain h
theorem nm_of (ok : Ok X W P Γ Φ k) {x : Str} {p : Pos} {i : Nat} (h1 : (x == ("__debug__" : Str)) = false) (h2 : (x == ("__classdict__" : Str)) = false) (hv : Γ.vis x = true) (hi : ixOf Γ.N x = some i) : PE X (.Name x p) (tVar i) :=
  pe_var (by rw [ok.N]; exact ixOf_at hi) (ok.vis hv) h1 h2
theorem ifs_snd {n : Nat} (ih : Ih n) (ok : Ok X W P Γ Φ k) {es : List Expr} {cs : List E} (hl : es.length ≤ 1) (h : mapO (cmpE n Γ true) es = some cs) : PTs X es (tB P W fun ρ => evTs Φ cs ρ) := by
  match es, hl, h with
  | [], _, h =>
    cases h
    exact ⟨fun pins s σ H Q I ⟨O, ρ, Z, a⟩ => pts_nil.run pins s σ H Q I (Aft.now a Z)⟩
  | [e], _, h =>
    unfold mapO at h
    split at h
    · rename_i b bs h1 h2
      cases h2
      cases h
      refine pts_one (((ih true e b ok h1).tst rfl).weak fun σ H Q ⟨O, ρ, Z, a⟩ => ⟨O, ρ, Z, ?_⟩)
      have e1 : evTs Φ [b] ρ = tru (rel (ev Φ b ρ)) := by
        show ((tru (rel (ev Φ b ρ))).bind fun p => if p.1 then .ok (true, p.2) else .ok (false, p.2)) = _
        cases tru (rel (ev Φ b ρ)) with
        | ok p => obtain ⟨b, r⟩ := p; cases b <;> rfl
        | exc _ _ _ => rfl
        | bad => rfl
      dsimp only at a
      rw [e1] at a
      exact a
    · cases h
theorem pe_lcD {n : Nat} (ih : Ih n) (ok : Ok X W P Γ Φ k) {elt tg it : Expr} {ifs : List Expr} {scope : Scope} {pos : Pos} {t : T} {kd : Sk} {src ifs' : List E} {elt' : E} (hb : blkC Γ.N Γ.sc scope (ownOf Γ.N scope) = true) (hl : ifs.length ≤ 1) (hd : isDisp it = false)
    (h1 : tgtE n (Γ.blk scope) tg = some t) (h2 : srcE (cmpE n Γ false) Γ tg it = some (kd, src)) (h3 : mapO (cmpE n (Γ.blk scope) true) ifs = some ifs') (h4 : cmpE n (Γ.blk scope) false elt = some elt') (hin : t.inn ((ownOf Γ.N scope).map (·.2)) = true) :
    PE X (.ListComp elt [⟨tg, it, ifs, 0⟩] scope pos) (tE P W Φ (.lc ((ownOf Γ.N scope).map (·.2)) t kd src ifs' elt')) := by
  have hN : X.N.Nodup := by rw [ok.N]; exact ok.nd
  have bk : BlkOk X.N X.env.scope scope (ownOf Γ.N scope) := by rw [ok.N, ok.sc]; exact blkOk_by hb
  refine (pe_lc ok.calm hN (src_snd ih ok h2) bk (g := xG P t) (tt := xB P fun ρ => evTs Φ ifs' ρ) (te := xV P fun ρ => rel (ev Φ elt' ρ))
    (fun s H C cl fp => ⟨fun pins s' σ H v u Q I r ⟨P', hP, z⟩ => (tgt_snd ((ok.blk scope s _ C cl fp).pm hP) n tg t h1).run pins s' σ H v u Q I r z⟩)
    (fun s H C cl fp => ⟨fun pins s' σ H Q I ⟨P', hP, z⟩ => (ifs_snd ih ((ok.blk scope s _ C cl fp).pm hP) hl h3).run pins s' σ H Q I z⟩)
    (fun s H C cl fp => ⟨fun pins s' σ H Q I ⟨P', hP, z⟩ => ((ih false elt elt' ((ok.blk scope s _ C cl fp).pm hP) h4).val rfl).v.run pins s' σ H Q I z⟩)
    (set_plain hd _)).weak fun σ H Q h => lc_rd hin h
end
end DL
namespace DL
open PySem L2
section
variable {X : Cx} {W : WX} {P : Pm} {Γ : Ctx} {Φ : Nat → Fn} {k : Nat}
theorem optE_none {f : Expr → Option E} {o : Option (Option E)} (h : optE f none = some c) : c = none := by cases h; rfl
theorem opt_snd {n : Nat} (ih : Ih n) (ok : Ok X W P Γ Φ k) {lo : Option Expr} {c : Option E} (h : optE (cmpE n Γ false) lo = some c) : (∀ e c', lo = some e → c = some c' → Snd X P W Φ e c') ∧ lo.isSome = c.isSome := by
  cases lo with
  | none => cases h; exact ⟨fun _ _ z => (by cases z), rfl⟩
  | some e =>
    obtain ⟨c', h1, rfl⟩ := Option.map_eq_some_iff.mp h
    refine ⟨fun e' c2 z1 z2 => ?_, rfl⟩
    cases z1; cases z2
    exact (ih false _ _ ok h1).val rfl
theorem name_snd {x : Str} {p : Pos} {c' : E} (ok : Ok X W P Γ Φ k) (h1 : nameE Γ x = some c') : (∃ i, c' = .var i ∧ PE X (.Name x p) (tVar i)) ∨ (∃ d, c' = .lit d ∧ PE X (.Name x p) (tE P W Φ (.lit d))) := by
  unfold nameE at h1
  split at h1
  · cases h1
  rename_i hd
  simp only [Bool.or_eq_true, not_or, Bool.not_eq_true] at hd
  split at h1
  · rename_i hv
    obtain ⟨i, hi, rfl⟩ := Option.map_eq_some_iff.mp h1
    exact .inl ⟨i, rfl, nm_of (p := p) ok hd.1 hd.2 hv hi⟩
  · split at h1
    · rename_i hg
      obtain ⟨g1, g2, g3⟩ := ok.glob hg
      split at h1
      · rename_i d hi
        cases h1
        obtain ⟨u, v, q1, q2, q3⟩ := ok.cs x d hi
        exact .inr ⟨d, rfl, pe_lit (pe_glob g1 q1 q2 g2) q3⟩
      · split at h1
        · rename_i hf
          cases h1
          obtain ⟨⟨i, g⟩, hf2⟩ := Option.isSome_iff_exists.mp hf
          obtain ⟨k1, rfl⟩ := fnIx_at hf2
          obtain ⟨f, q1, q2, q3, _⟩ := (ok.fs i g k1).at_
          exact .inr ⟨.fn g.name, rfl, pe_lit (pe_glob g1 q1 (v := .ref f) rfl g2) fun H => .fn q3⟩
        · cases h1
    · cases h1
theorem bool_snd {op : BoolOp} {a : Expr} {p : Pos} {c : E} {tst : Bool} (hn : Both X P W Φ tst a c) : Both X P W Φ tst (.BoolOp op [a] p) c := by
  refine mkW (fun z => ⟨pe_one (hn.val z).pe, fun i e => pe_one ((hn.val z).nm i e)⟩) fun z => ?_
  cases op with
  | And => exact pw_and1 (hn.tst z)
  | Or => exact pw_or1 (hn.tst z)
theorem cmp_snd : ∀ n, Ih n
  | 0 => fun _ _ _ _ h => by cases h
  | n + 1 => fun tst e c ok h => by
    have ih : Ih n := cmp_snd n
    have hK := ok.K
    have hu := ok.un
    unfold cmpE at h
    split at h
    · rename_i cc i p
      cases cc <;> first
        | cases h
        | skip
      · exact both_of hK rfl (pe_lit pe_non fun _ => .non) (fun _ z => by cases z)
      · exact both_of hK rfl (pe_lit pe_bl fun _ => .bl _) (fun _ z => by cases z)
      · exact both_of hK rfl (pe_lit pe_int fun _ => .int _) (fun _ z => by cases z)
      · exact both_of hK rfl (pe_lit pe_str fun _ => .str _) (fun _ z => by cases z)
    · rename_i x p
      obtain ⟨c', h1, rfl⟩ := Option.map_eq_some_iff.mp h
      rcases name_snd (p := p) ok h1 with ⟨i, rfl, q⟩ | ⟨d, rfl, q⟩
      · cases tst with
        | false => exact mkB rfl (fun _ => ⟨name_e q, fun j z => by cases z; exact q⟩) fun z => by cases z
        | true => exact mkB rfl (fun z => (by cases z)) fun _ => pt_name hK q
      · have e : (if tst = true then tstE (.lit d) else .lit d) = .lit d := by cases tst <;> rfl
        rw [e]
        exact both_of hK rfl q (fun _ z => by cases z)
    · rename_i a o b p
      split at h
      · rename_i a' b' h1 h2
        cases h
        exact both_of hK rfl (pe_bin hK ((ih false a a' ok h1).val rfl) ((ih false b b' ok h2).val rfl)) (fun _ z => by cases z)
      · cases h
    · rename_i a p
      obtain ⟨c', h1, rfl⟩ := Option.map_eq_some_iff.mp h
      exact both_of hK rfl (pe_neg ((ih false a c' ok h1).val rfl)) (fun _ z => by cases z)
    · rename_i x q p
      obtain ⟨c', h1, rfl⟩ := Option.map_eq_some_iff.mp h
      have b := ih true _ _ ok h1
      refine mkB rfl (fun _ => snd_of ?_ (fun _ z => by cases z)) fun _ => pt_not' (b.tst rfl)
      cases n with
      | zero => cases h1
      | succ n =>
        replace h1 : (nameE _ x).map (fun c => if true then tstE c else c) = some c' := h1
        obtain ⟨c2, h2, rfl⟩ := Option.map_eq_some_iff.mp h1
        rcases name_snd (p := q) ok h2 with ⟨i, rfl, r⟩ | ⟨d, rfl, r⟩
        · exact pe_notN hK r
        · exact pe_notD hK r
    · rename_i a p _
      obtain ⟨c', h1, rfl⟩ := Option.map_eq_some_iff.mp h
      have b := ih tst _ _ ok h1
      exact mkB rfl (fun z => snd_of (pe_notD hK (b.val z).pe) (fun _ z => by cases z)) fun z => pt_not' (b.tst z)
    · exact bool_snd (ih tst _ _ ok h)
    · exact bool_snd (ih tst _ _ ok h)
    · rename_i a b r p
      split at h
      · rename_i a' b' h1 h2
        cases h
        have qa := ih tst _ _ ok h1
        have qb := ih tst _ _ ok h2
        exact mkW (fun z => snd_of (pe_andD hK (qa.val z) (qb.val z).pe) (fun _ z => by cases z)) fun z => pw_andD (qa.tst z) (qb.pw z rfl)
      · cases h
    · rename_i a b r p
      split at h
      · rename_i a' b' h1 h2
        cases h
        have qa := ih tst _ _ ok h1
        have qb := ih tst _ _ ok h2
        exact mkW (fun z => snd_of (pe_orD hK (qa.val z) (qb.val z).pe) (fun _ z => by cases z)) fun z => pw_orD (qa.tst z) (qb.pw z rfl)
      · cases h
    · rename_i t a b p
      split at h
      · cases h
      rename_i ht
      split at h
      · rename_i t' a' b' h1 h2 h3
        cases h
        exact mkB rfl (fun z => snd_of (pe_ifD ((ih true t t' ok h1).tst rfl) ((ih false a a' ok h2).val rfl) ((ih false b b' ok h3).val rfl)) (fun _ z => by cases z)) fun z => absurd z ht
      · cases h
    · rename_i a o b p
      split at h
      · cases h
      rename_i hd
      have hd : isDisp b = false := by simpa using hd
      split at h
      · rename_i kvs hdk
        split at h
        · rename_i op a' h1 h2
          cases h
          obtain ⟨q1, q2⟩ := pe_inK (pos := p) ok hdk h1 hd ((ih false _ _ ok h2).val rfl)
          exact mkB rfl (fun z => snd_of q1 (fun _ z => by cases z)) fun z => q2
        · cases h
      · split at h
        rotate_left
        · cases h
        rename_i a' b' h1 h2
        cases h
        have qa := (ih false _ _ ok h1).val rfl
        have qb := (ih false _ _ ok h2).val rfl
        exact mkB rfl (fun z => snd_of (pe_cmpD hK hu hd qa qb) (fun _ z => by cases z)) fun z => pt_cmpD hK hu hd qa qb
    · rename_i a o o2 b c p
      split at h
      · rename_i hp
        rw [Bool.and_eq_true] at hp
        split at h
        · rename_i a' b' c' h1 h2 h3
          cases h
          have qa := (ih false _ _ ok h1).val rfl
          have qb := (ih false _ _ ok h2).val rfl
          have qc := (ih false _ _ ok h3).val rfl
          exact mkB rfl (fun z => snd_of (pe_chainD hK hu hp.2 qa qb qc) (fun _ z => by cases z)) fun z => pt_chainD hK hu hp.2 qa qb qc
        · cases h
      · cases h
    · rename_i a o o2 o3 b c d p
      split at h
      · rename_i hp
        simp only [Bool.and_eq_true] at hp
        split at h
        · rename_i a' b' c' d' h1 h2 h3 h4
          cases h
          have qa := (ih false _ _ ok h1).val rfl
          have qb := (ih false _ _ ok h2).val rfl
          have qc := (ih false _ _ ok h3).val rfl
          have qd := (ih false _ _ ok h4).val rfl
          exact mkB rfl (fun z => snd_of (pe_chain3D hK hu hp.2 qa qb qc qd) (fun _ z => by cases z)) fun z => pt_chain3D hK hu hp.2 qa qb qc qd
        · cases h
      · cases h
    · rename_i es kk p
      split at h
      · rename_i hn
        obtain ⟨cs, h1, rfl⟩ := Option.map_eq_some_iff.mp h
        exact both_of hK rfl (pe_tupD (map_snd ih ok hn h1).vs) (fun _ z => by cases z)
      · cases h
    · rename_i es p
      split at h
      · rename_i hn
        obtain ⟨cs, h1, rfl⟩ := Option.map_eq_some_iff.mp h
        exact both_of hK rfl (pe_lstD (map_snd ih ok hn h1).vs) (fun _ z => by cases z)
      · cases h
    · cases h
      exact both_of hK rfl pe_dic0 (fun _ z => by cases z)
    · rename_i a lo hi p2 p
      split at h
      · rename_i a' lo' hi' h1 h2 h3
        cases h
        obtain ⟨q1, q2⟩ := opt_snd ih ok h2
        obtain ⟨q3, q4⟩ := opt_snd ih ok h3
        exact both_of hK rfl (pe_slD hK ((ih false _ _ ok h1).val rfl) q1 q3 q2 q4) (fun _ z => by cases z)
      · cases h
    · obtain ⟨c', h1, rfl⟩ := Option.map_eq_some_iff.mp h
      exact both_of hK rfl (pe_revD hK ((ih false _ _ ok h1).val rfl)) (fun _ z => by cases z)
    · cases h
    · rename_i a i p hs1 hs0 hs2
      have hs : isSlice i = false := by
        cases i <;> first
          | rfl
          | exact absurd rfl (hs2 _ _ _ _)
      split at h
      · rename_i kvs hdk
        obtain ⟨c', h1, rfl⟩ := Option.map_eq_some_iff.mp h
        exact both_of hK rfl (pe_ixK ok hdk hs ((ih false _ _ ok h1).val rfl)) (fun _ z => by cases z)
      · split at h
        rotate_left
        · cases h
        rename_i a' i' h1 h2
        cases h
        exact both_of hK rfl (pe_ixD hK (by have := ok.un; omega) hs ((ih false _ _ ok h1).val rfl) ((ih false _ _ ok h2).val rfl)) (fun _ z => by cases z)
    · rename_i f p args pos
      split at h
      · cases h
      rename_i hn
      have hn : args.all nst = true := by simpa using hn
      split at h
      · rename_i i g hf
        split at h
        · rename_i hc
          rw [Bool.and_eq_true] at hc
          obtain ⟨cs, h1, rfl⟩ := Option.map_eq_some_iff.mp h
          exact both_of hK rfl (pe_callD ok hf hc.1 (by simpa using hc.2) (map_snd ih ok hn h1)) (fun _ z => by cases z)
        · cases h
      · split at h
        · rename_i hv
          split at h
          · cases h
          rename_i hc
          simp only [Bool.or_eq_true, not_or, Bool.not_eq_true] at hc
          split at h
          · rename_i i cs h1 h2
            cases h
            have sl := map_snd ih ok hn h2
            cases args with
            | nil => exact absurd hc.1.1 (by decide)
            | cons e es => exact both_of hK rfl (pe_callV ok hv hc.1.2 hc.2 h1 sl) (fun _ z => by cases z)
          · cases h
        split at h
        · cases h
        rename_i hb
        simp only [Bool.not_eq_true, Bool.not_eq_false'] at hb
        split at h
        · rename_i hx
          subst hx
          split at h
          · rename_i a ty p2 _
            split at h
            · rename_i hty
              split at h
              · rename_i t a' h1 h2
                cases h
                have hn1 : nst a = true := by
                  simp only [List.all_cons, Bool.and_eq_true] at hn; exact hn.1
                exact both_of hK rfl (pe_isi ok hb hty h1 hn1 ((ih false _ _ ok h2).val rfl)) (fun _ z => by cases z)
              · cases h
            · cases h
          · cases h
        · split at h
          · rename_i a _
            have hn1 : nst a = true := by
              simp only [List.all_cons, Bool.and_eq_true] at hn; exact hn.1
            split at h
            · rename_i o a' h1 h2
              cases h
              exact both_of hK rfl (pe_bi1 ok hb h1 hn1 ((ih false _ _ ok h2).val rfl)) (fun _ z => by cases z)
            · cases h
          · rename_i a b
            simp only [List.all_cons, Bool.and_eq_true] at hn
            split at h
            · rename_i o a' b' h1 h2 h3
              cases h
              exact both_of hK rfl (pe_bi2 ok hb h1 hn.1 hn.2.1 ((ih false _ _ ok h2).val rfl) ((ih false _ _ ok h3).val rfl)) (fun _ z => by cases z)
            · cases h
          · cases h
    · rename_i x p0 m apos a cpos
      split at h
      · cases h
      rename_i hc
      rw [Bool.not_eq_true, Bool.not_eq_false'] at hc
      simp only [Bool.and_eq_true, Bool.not_eq_true'] at hc
      split at h
      · rename_i i a' h1 h2
        have q := nm_of (p := p0) ok hc.1.2 hc.2 hc.1.1.1.2 h1
        split at h
        · rename_i hm
          subst hm
          cases h
          exact both_of hK rfl (pe_append q hc.1.1.2 hc.1.1.1.1 ((ih false _ _ ok h2).val rfl)) (fun _ z => by cases z)
        · split at h
          · rename_i hm
            subst hm
            cases h
            exact both_of hK rfl (pe_extend q hc.1.1.2 hc.1.1.1.1 ((ih false _ _ ok h2).val rfl)) (fun _ z => by cases z)
          · cases h
      · cases h
    · rename_i x p0 m apos cpos
      split at h
      · cases h
      rename_i hc
      rw [Bool.not_eq_true, Bool.not_eq_false'] at hc
      simp only [Bool.and_eq_true, Bool.not_eq_true'] at hc
      split at h
      · rename_i i h1
        have q := nm_of (p := p0) ok hc.1.2 hc.2 hc.1.1.1 h1
        split at h
        · rename_i hm
          subst hm
          cases h
          exact both_of hK rfl (pe_pop q hc.1.1.2) (fun _ z => by cases z)
        · cases h
      · cases h
    · rename_i elt tg it ifs scope p
      split at h
      · cases h
      rename_i hc
      simp only [Bool.or_eq_true, not_or, Bool.not_eq_true, Bool.not_eq_false', decide_eq_true_eq, Nat.not_lt] at hc
      split at h
      · rename_i t kd src ifs' elt' h1 h2 h3 h4
        split at h
        · rename_i hin
          cases h
          exact both_of hK rfl (pe_lcD ih ok hc.1.1 hc.1.2 hc.2 h1 h2 h3 h4 hin) (fun _ z => by cases z)
        · cases h
      · cases h
    · cases h
end
end DL
namespace DL
open PySem L2
/-! ## statements -/
def AftS (P : Pm) (W : WX) (O : List Addr) (H : Hp) (r : R Sts Out) (D : Ends) : Prop := match r with
  | .ok (.nx ρ') => ∀ O' σ' H', Rel P O' ρ' σ' H' → Ext O H O' H' → D.nx σ' H'
  | .ok (.bk ρ') => ∀ O' σ' H', Rel P O' ρ' σ' H' → Ext O H O' H' → D.bk σ' H'
  | .ok (.ct ρ') => ∀ O' σ' H', Rel P O' ρ' σ' H' → Ext O H O' H' → D.ct σ' H'
  | .ok (.rt s ρ') => ∀ O' σ' H' v, Rel P O' ρ' σ' H' → Ext O H O' H' → RepR P O' ρ' σ' H' v s → D.rt v H'
  | .exc c x ρ' => ∀ O' σ' H' cv d, Rel P O' ρ' σ' H' → Ext O H O' H' → ExcAt P.G O' H' c x cv d → W cv d σ' H'
  | .bad => False
def tS (P : Pm) (W : WX) (r : Sts → R Sts Out) : TS := fun D σ H => ∃ O ρ, Rel P O ρ σ H ∧ AftS P W O H (r ρ) D
section
variable {X : Cx} {W : WX} {P : Pm} {Γ : Ctx} {Φ : Nat → Fn} {k : Nat} {O O1 : List Addr} {H H1 : Hp} {σ : St} {D D' : Ends} {ρ : Sts}
theorem AftS.mono {r : R Sts Out} (h : AftS P W O H r D) (e : Ext O H O1 H1) : AftS P W O1 H1 r D := by
  cases r with
  | ok p => cases p with
    | nx ρ' => exact fun O' σ' H' R x => h O' σ' H' R (e.trans x)
    | bk ρ' => exact fun O' σ' H' R x => h O' σ' H' R (e.trans x)
    | ct ρ' => exact fun O' σ' H' R x => h O' σ' H' R (e.trans x)
    | rt s ρ' => exact fun O' σ' H' v R x => h O' σ' H' v R (e.trans x)
  | exc c x ρ' => exact fun O' σ' H' cv d R z => h O' σ' H' cv d R (e.trans z)
  | bad => exact h
/-- behind an expression -/
theorem AftS.bind {α : Type} {r : R Sts (α × Sts)} {f : α × Sts → R Sts Out} (h : AftS P W O H (r.bind f) D) : Aft P W σ O H r fun a ρ1 O1 H1 => AftS P W O1 H1 (f (a, ρ1)) D := by
  cases r with
  | ok p => exact fun O' H' R x => AftS.mono h x
  | exc c x ρ' => exact fun O' H' cv d R z q => h O' σ H' cv d R z q
  | bad => exact h
theorem AftS.then {r : R Sts Out} {f : Sts → R Sts Out} (h : AftS P W O H (thenR r f) D) : AftS P W O H r { D with nx := tS P W f D } := by
  cases r with
  | ok p => cases p with
    | nx ρ' => exact fun O' σ' H' R x => ⟨O', ρ', R, AftS.mono h x⟩
    | bk ρ' => exact h
    | ct ρ' => exact h
    | rt s ρ' => exact h
  | exc c x ρ' => exact h
  | bad => exact h
theorem AftS.nxt {ρ' : Sts} (h : AftS P W O H (.ok (.nx ρ')) D) (R : Rel P O ρ' σ H) : D.nx σ H := h O σ H R .refl
theorem AftS.of {α : Type} {o : Option α} {f : α → Out} (h : AftS P W O H ((R.ofO o).map f) D) : ∃ a, o = some a ∧ AftS P W O H (.ok (f a)) D := by
  cases o with
  | none => exact h.elim
  | some a => exact ⟨a, rfl, h⟩
theorem ps_passD {pos : Pos} : PS X (.Pass pos) (tS P W (evS Φ .pass)) := ps_pass.weak fun D σ H ⟨O, ρ, Z, a⟩ => AftS.nxt a Z
theorem ps_docD {x : Str} {j : Nat} {pos pos' : Pos} : PS X (.Expr (.Constant (.str x) j pos) pos') (tS P W (evS Φ .pass)) := ps_doc.weak fun D σ H ⟨O, ρ, Z, a⟩ => AftS.nxt a Z
theorem ps_brkD {pos : Pos} : PS X (.Break pos) (tS P W (evS Φ .brk)) := ps_break.weak fun D σ H ⟨O, ρ, Z, a⟩ => a O σ H Z .refl
theorem ps_cntD {pos : Pos} : PS X (.Continue pos) (tS P W (evS Φ .cnt)) := ps_continue.weak fun D σ H ⟨O, ρ, Z, a⟩ => a O σ H Z .refl
theorem ps_retnD {pos : Pos} : PS X (.Return none pos) (tS P W (evS Φ .retn)) := ps_retN.weak fun D σ H ⟨O, ρ, Z, a⟩ => a O σ H .non Z .refl .non
theorem swaps_plain {e : Expr} {t : Option Expr} {l : Nat} {env : PySem.Env} (h : notComp e = true) : swapsWith e t l env = pure false := by
  cases e <;> first | rfl | cases h
theorem ps_expD {e : Expr} {c : E} {pos : Pos} (hn : notComp e = true) (h : PE X e (tE P W Φ c)) : PS X (.Expr e pos) (tS P W (evS Φ (.exp c))) :=
  (ps_expr h (swaps_plain hn)).weak fun D σ H ⟨O, ρ, Z, a⟩ => ⟨O, ρ, Z, by
    have a2 : AftS P W O H ((ev Φ c ρ).bind fun p => .ok (.nx p.2)) D := by
      have e : evS Φ (.exp c) ρ = (ev Φ c ρ).bind fun p => .ok (.nx p.2) := by
        show (ev Φ c ρ).map (fun p => Out.nx p.2) = _
        cases ev Φ c ρ <;> rfl
      rw [← e]; exact a
    exact a2.bind.imp fun s ρ1 O1 H1 R1 _ q v rv => AftS.nxt q R1⟩
theorem ps_retD {e : Expr} {c : E} {pos : Pos} (h : PE X e (tE P W Φ c)) : PS X (.Return (some e) pos) (tS P W (evS Φ (.ret c))) :=
  (ps_ret h).weak fun D σ H ⟨O, ρ, Z, a⟩ => ⟨O, ρ, Z, by
    have a2 : AftS P W O H ((ev Φ c ρ).bind fun p => .ok (.rt p.1 p.2)) D := by
      have e : evS Φ (.ret c) ρ = (ev Φ c ρ).bind fun p => .ok (.rt p.1 p.2) := by
        show (ev Φ c ρ).map (fun p => Out.rt p.1 p.2) = _
        cases ev Φ c ρ <;> rfl
      rw [← e]; exact a
    exact a2.bind.imp fun s ρ1 O1 H1 R1 _ q v rv => q O1 σ H1 v R1 .refl rv⟩
theorem Rel.take (R : Rel P O ρ σ H) {i : Nat} {d : DL.D} (hi : ρ[i]? = some (.own d)) : ∃ a, σ[i]? = some (some (.ref a)) ∧ Rel P O (ρ.set i .emp) σ H ∧ RepR P O (ρ.set i .emp) σ H (.ref a) (.own d) := by
  obtain ⟨a, h1, h2, h3, h4⟩ := R.own i d hi
  have hl : i < ρ.length := (List.getElem?_eq_some_iff.mp hi).1
  have ne : ∀ {j : Nat} {s : Slot}, s ≠ .emp → (ρ.set i .emp)[j]? = some s → i ≠ j ∧ ρ[j]? = some s := fun {j s} hs q => by
    by_cases hj : i = j
    · subst hj; rw [List.getElem?_set_self hl] at q; cases q; exact absurd rfl hs
    · rw [List.getElem?_set_ne hj] at q; exact ⟨hj, q⟩
  refine ⟨a, h1, ⟨by simpa using R.len, fun j e q => R.val j e (ne (by simp) q).2, fun j e q => R.own j e (ne (by simp) q).2, fun j e q => R.io j e (ne (by simp) q).2, fun j l b s t q1 q2 => R.dis j l b s t (ne (by simp) q1).2 (ne (by simp) q2).2, R.iod, R.fr, R.ofr, R.odom, R.exs, R.sub⟩, a, rfl, h2, h3, fun j e q z => ?_, h4⟩
  obtain ⟨z1, z2⟩ := ne (by simp) q
  exact z1 (R.dis i j a d e hi z2 h1 z)
theorem ps_retoD {e : Expr} {i : Nat} {pos : Pos} (h : PE X e (tVar i)) : PS X (.Return (some e) pos) (tS P W (evS Φ (.reto i))) :=
  (ps_ret h).weak fun D σ H ⟨O, ρ, Z, a⟩ => by
    replace a : AftS P W O H (match ρ[i]? with
      | some (.own d) => .ok (.rt (.own d) (ρ.set i .emp))
      | some (.val d) => .ok (.rt (.val d) ρ)
      | _ => .bad) D := a
    show ∃ v, σ[i]? = some (some v) ∧ D.rt v H
    split at a
    · rename_i d e1
      obtain ⟨b, h1, h2, h3⟩ := Z.take e1
      exact ⟨_, h1, a O σ H _ h2 .refl h3⟩
    · rename_i d e1
      obtain ⟨v, h1, h2⟩ := Z.val i d e1
      exact ⟨v, h1, a O σ H _ Z .refl h2⟩
    · exact a.elim
theorem ps_iteD {t : Expr} {ct : E} {a b : List Stmt} {ca cb : List S} {pos : Pos} (ht : PT X t (tT P W Φ ct)) (ha : PSs X a (tS P W (evSs Φ ca))) (hb : PSs X b (tS P W (evSs Φ cb))) : PS X (.If t a b pos) (tS P W (evS Φ (.ite ct ca cb))) :=
  (ps_if ht ha hb).weak fun D σ H ⟨O, ρ, Z, a⟩ => ⟨O, ρ, Z, by
    have a2 : AftS P W O H ((tru (rel (ev Φ ct ρ))).bind fun p => if p.1 then evSs Φ ca p.2 else evSs Φ cb p.2) D := a
    refine a2.bind.imp fun b ρ1 O1 H1 R1 _ q => ?_
    cases b with
    | true => exact ⟨O1, ρ1, R1, q⟩
    | false => exact ⟨O1, ρ1, R1, q⟩⟩
theorem pss_nilD : PSs X [] (tS P W (evSs Φ [])) := pss_nil.weak fun D σ H ⟨O, ρ, Z, a⟩ => AftS.nxt a Z
theorem pss_consD {st : Stmt} {rest : List Stmt} {c : S} {cs : List S} (h : PS X st (tS P W (evS Φ c))) (hr : PSs X rest (tS P W (evSs Φ cs))) : PSs X (st :: rest) (tS P W (evSs Φ (c :: cs))) :=
  (pss_cons h hr).weak fun D σ H ⟨O, ρ, Z, a⟩ => ⟨O, ρ, Z, AftS.then a⟩
/-- e, then a store -/
theorem asg_rd {e : E} {t : T} (h : tS P W (evS Φ (.asg t e)) D σ H) : tE P W Φ e σ H fun v H1 => tGt P t v σ H1 D.nx := by
  obtain ⟨O, ρ, Z, a⟩ := h
  refine ⟨O, ρ, Z, ?_⟩
  have a2 : AftS P W O H ((ev Φ e ρ).bind fun p => (R.ofO (assignT t p.1 p.2)).map .nx) D := a
  refine a2.bind.imp fun s ρ1 O1 H1 R1 _ q v rv => ?_
  obtain ⟨ρ2, h1, q⟩ := AftS.of q
  exact ⟨O1, ρ1, s, ρ2, R1, rv, h1, fun O2 σ2 R2 x2 _ => q O2 σ2 H1 R2 x2⟩
def isTup : Expr → Bool
  | .Tuple .. => true
  | _ => false
def isName : Expr → Bool
  | .Name .. => true
  | _ => false
/-- no stores in another order -/
def plainSt (tg e : Expr) : Bool := match tg with
  | .Name .. => true
  | .Tuple .. => !isTup e
  | .Subscript .. => true
  | _ => false
theorem stores_plain {tg e : Expr} {env : PySem.Env} (h : plainSt tg e = true) : swappedStores [tg] e env = pure none := by
  cases tg <;> first
    | rfl
    | cases h
    | (cases e <;> first | rfl | cases h)
theorem each_one {tg e : Expr} {env : PySem.Env} (h : plainSt tg e = true) : (assignEach [tg] env).map (·.2) = [assign tg env] := by
  cases tg <;> first | rfl | cases h
theorem ps_asgD {tg e : Expr} {t : T} {c : E} {pos : Pos} (hs : swapsWith e (some tg) pos.line X.env = pure false) (hp : plainSt tg e = true) (ht : PG X tg (tGt P t)) (he : PE X e (tE P W Φ c)) : PS X (.Assign [tg] e pos) (tS P W (evS Φ (.asg t c))) :=
  (ps_asg he ht hs (stores_plain hp) (each_one hp)).weak fun D σ H h => asg_rd h
/-- name = [..] on one line -/
theorem gName_of {i : Nat} {v : V} {o : Bool} {Q : St → Hp → Prop} (h : tGt P (.name i o) v σ H Q) : gName i v σ H Q := by
  obtain ⟨O, ρ, s, ρ', Z, hs, hA, q⟩ := h
  obtain ⟨O', Z', x⟩ := setT Z hs hA
  exact q O' _ Z' x fun vs hv => wipe_set (by simpa [T.inn] using hv)
end
end DL
namespace DL
open PySem L2
section
variable {X : Cx} {W : WX} {P : Pm} {Γ : Ctx} {Φ : Nat → Fn} {k : Nat} {O O1 : List Addr} {H H1 : Hp} {σ : St} {D D' : Ends} {ρ : Sts}
/-! ### while, for -/
theorem whl_rd {t : E} {b : List S} (h : tS P W (evS Φ (.whl t b)) D σ H) : tWhile (tT P W Φ t) (tS P W (evSs Φ b)) D σ H := by
  obtain ⟨O, ρ, Z, a⟩ := h
  replace a : AftS P W O H (whlR (fun ρ => tru (rel (ev Φ t ρ))) (fun ρ => evSs Φ b ρ) fuel ρ) D := a
  refine ⟨fun m σ' H' => ∃ O' ρ', Rel P O' ρ' σ' H' ∧ AftS P W O' H' (whlR (fun ρ => tru (rel (ev Φ t ρ))) (fun ρ => evSs Φ b ρ) m ρ') D, ⟨fuel, O, ρ, Z, a⟩, ?_⟩
  rintro m σ1 H1 ⟨O1, ρ1, Z1, a1⟩
  cases m with
  | zero => exact a1.elim
  | succ m =>
    refine ⟨O1, ρ1, Z1, ?_⟩
    have a2 : AftS P W O1 H1 ((tru (rel (ev Φ t ρ1))).bind fun p => if p.1 then (match evSs Φ b p.2 with
      | .ok (.nx ρ1) => whlR (fun ρ => tru (rel (ev Φ t ρ))) (fun ρ => evSs Φ b ρ) m ρ1
      | .ok (.ct ρ1) => whlR (fun ρ => tru (rel (ev Φ t ρ))) (fun ρ => evSs Φ b ρ) m ρ1
      | .ok (.bk ρ1) => .ok (.nx ρ1)
      | .ok (.rt s ρ1) => .ok (.rt s ρ1)
      | .exc c x e => .exc c x e
      | .bad => .bad) else .ok (.nx p.2)) D := a1
    refine a2.bind.imp fun c ρ2 O2 H2 R2 _ q => ?_
    cases c with
    | false => exact AftS.nxt q R2
    | true =>
      show ∃ N : St → Hp → Prop, _ ∧ _
      refine ⟨fun σ' H' => ∃ O' ρ', Rel P O' ρ' σ' H' ∧ AftS P W O' H' (whlR (fun ρ => tru (rel (ev Φ t ρ))) (fun ρ => evSs Φ b ρ) m ρ') D, fun σ' H' n => ⟨m, Nat.lt_succ_self m, n⟩, O2, ρ2, R2, ?_⟩
      replace q : AftS P W O2 H2 (match evSs Φ b ρ2 with
        | .ok (.nx ρ1) => whlR (fun ρ => tru (rel (ev Φ t ρ))) (fun ρ => evSs Φ b ρ) m ρ1
        | .ok (.ct ρ1) => whlR (fun ρ => tru (rel (ev Φ t ρ))) (fun ρ => evSs Φ b ρ) m ρ1
        | .ok (.bk ρ1) => .ok (.nx ρ1)
        | .ok (.rt s ρ1) => .ok (.rt s ρ1)
        | .exc c x e => .exc c x e
        | .bad => .bad) D := q
      revert q
      cases evSs Φ b ρ2 with
      | bad => exact fun q => q
      | exc c x e => exact fun q => q
      | ok o => cases o with
        | nx ρ3 => exact fun q O3 σ3 H3 R3 x3 => ⟨O3, ρ3, R3, AftS.mono q x3⟩
        | ct ρ3 => exact fun q O3 σ3 H3 R3 x3 => ⟨O3, ρ3, R3, AftS.mono q x3⟩
        | bk ρ3 => exact fun q => q
        | rt s ρ3 => exact fun q => q
theorem ps_whlD {t : Expr} {ct : E} {b : List Stmt} {cb : List S} {pos : Pos} (ok : Ok X W P Γ Φ k) (ht : PT X t (tT P W Φ ct)) (hb : PSs X b (tS P W (evSs Φ cb))) : PS X (.While t b [] pos) (tS P W (evS Φ (.whl ct cb))) :=
  (ps_while ok.po ht hb).weak fun D σ H h => whl_rd h
theorem for_rd {t : T} {kd : Sk} {src : List E} {b : List S} (h : tS P W (evS Φ (.for t kd src b)) D σ H) : tFor (tSrc P W Φ kd src) (tGt P t) (tS P W (evSs Φ b)) D σ H := by
  obtain ⟨O, ρ, Z, a⟩ := h
  refine ⟨O, ρ, Z, ?_⟩
  have a2 : AftS P W O H ((srcR Φ kd src ρ).bind fun p => forR (fun x ρ => (R.ofO (assignT t (.val x) ρ)).bind fun ρ1 => evSs Φ b ρ1) p.1 p.2) D := by
    have e : evS Φ (.for t kd src b) ρ = (srcR Φ kd src ρ).bind fun p => forR (fun x ρ => (R.ofO (assignT t (.val x) ρ)).bind fun ρ1 => evSs Φ b ρ1) p.1 p.2 := by
      show ((evVs Φ src ρ).bind fun p => match srcf kd p.1 with
        | some items => forR (fun x ρ => (R.ofO (assignT t (.val x) ρ)).bind fun ρ1 => evSs Φ b ρ1) items p.2
        | none => .bad) = _
      unfold srcR
      cases evVs Φ src ρ with
      | exc _ _ _ => rfl
      | bad => rfl
      | ok p =>
        dsimp only [R.bind]
        cases srcf kd p.1 <;> rfl
    rw [← e]; exact a
  refine a2.bind.imp fun items ρ1 O1 H1 R1 _ q J wk => ?_
  dsimp only at q
  let step := fun x ρ => (R.ofO (assignT t (.val x) ρ) : R Sts Sts).bind fun ρ1 => evSs Φ b ρ1
  let Pv : Nat → St → Hp → Prop := fun i σ' H' => ∃ O' ρ', Rel P O' ρ' σ' H' ∧ Ext O1 H1 O' H' ∧ AftS P W O' H' (forR step (items.drop i) ρ') D
  refine ⟨fun i m σ' H' => m = items.length - i ∧ i ≤ items.length ∧ Pv i σ' H', ⟨items.length, by simp, Nat.zero_le _, O1, ρ1, R1, .refl, q⟩, ?_⟩
  rintro i m σ2 H2 ⟨rfl, hi, O2, ρ2, R2, x2, q2⟩
  by_cases hlt : i < items.length
  · refine .inr ⟨wk.go i O2 H2 hlt x2, Pv (i + 1), fun σ' H' p' => ⟨items.length - (i + 1), by omega, rfl, hlt, p'⟩, fun x H3 y => ?_⟩
    obtain ⟨s3, d, hd, rd⟩ := wk.yld i O2 H2 x H3 hlt x2 R2.odom y
    have R3 := R2.same s3
    have x3 : Ext O2 H2 O2 H3 := .same s3
    rw [List.drop_eq_getElem_cons hlt] at q2
    have hd' : items[i] = d := by
      rw [List.getElem?_eq_getElem hlt] at hd; exact Option.some.inj hd
    rw [hd'] at q2
    replace q2 : AftS P W O2 H2 (match step d ρ2 with
      | .ok (.nx ρ1) => forR step (items.drop (i + 1)) ρ1
      | .ok (.ct ρ1) => forR step (items.drop (i + 1)) ρ1
      | .ok (.bk ρ1) => .ok (.nx ρ1)
      | .ok (.rt s ρ1) => .ok (.rt s ρ1)
      | .exc c x e => .exc c x e
      | .bad => .bad) D := q2
    cases hA : assignT t (.val d) ρ2 with
    | none =>
      have e : step d ρ2 = .bad := by show (R.ofO (assignT t (.val d) ρ2) : R Sts Sts).bind _ = _; rw [hA]; rfl
      rw [e] at q2
      exact q2.elim
    | some ρ3 =>
      have e : step d ρ2 = evSs Φ b ρ3 := by show (R.ofO (assignT t (.val d) ρ2) : R Sts Sts).bind _ = _; rw [hA]; rfl
      rw [e] at q2
      refine ⟨O2, ρ2, .val d, ρ3, R3, rd, hA, fun O4 σ4 R4 x4 _ => ⟨O4, ρ3, R4, ?_⟩⟩
      have q3 := q2.mono (x3.trans x4)
      have x24 := x2.trans (x3.trans x4)
      revert q3
      cases evSs Φ b ρ3 with
      | bad => exact fun q => q
      | exc c x e => exact fun q => q
      | ok o => cases o with
        | nx ρ5 => exact fun q O5 σ5 H5 R5 x5 => ⟨O5, ρ5, R5, x24.trans x5, AftS.mono q x5⟩
        | ct ρ5 => exact fun q O5 σ5 H5 R5 x5 => ⟨O5, ρ5, R5, x24.trans x5, AftS.mono q x5⟩
        | bk ρ5 => exact fun q => q
        | rt s ρ5 => exact fun q => q
  · have e : i = items.length := by omega
    subst e
    rw [List.drop_length] at q2
    exact .inl ⟨wk.stop O2 H2 x2, AftS.nxt q2 R2⟩
theorem ps_forD {tg it : Expr} {t : T} {kd : Sk} {src : List E} {b : List Stmt} {cb : List S} {pos : Pos} (ok : Ok X W P Γ Φ k) (hi : PI X tg it (tSrc P W Φ kd src)) (hd : isDisp it = false) (ht : PG X tg (tGt P t)) (hb : PSs X b (tS P W (evSs Φ cb))) :
    PS X (.For tg it b [] pos) (tS P W (evS Φ (.for t kd src cb))) :=
  (ps_for ok.po ok.calm hi ht hb (set_plain hd _)).weak fun D σ H h => for_rd h
/-! ### x[i] = v -/
theorem set_ld (hu : X.A.units + 1 < cLine) : PSet X (fun o i v H Q => rSetL o i v H Q ∨ rSetD o i v H Q) := fun pins s σ H o i v ov iv u Q I ro ri rv h => h.elim (set_list pins s σ H o i v ov iv u Q I ro ri rv) (set_dict hu pins s σ H o i v ov iv u Q I ro ri rv)
theorem ps_setiD (hu : X.A.units + 1 < cLine) {x : Str} {p p2 pos : Pos} {i : Nat} {e ix : Expr} {ce ci : E} (hs : isSlice ix = false) (hsw : notComp e = true) (hx : PE X (.Name x p) (tVar i)) (he : PE X e (tE P W Φ ce)) (hi : PE X ix (tE P W Φ ci)) :
    PS X (.Assign [.Subscript (.Name x p) ix p2] e pos) (tS P W (evS Φ (.seti i ci ce))) := by
  have ha : ∀ v, assign (.Subscript (.Name x p) ix p2) X.env v = (do
      let ov ← holding [v] (eval (.Name x p) X.env)
      let iv ← holding [v, ov] (eval ix X.env)
      standAt p2
      holding [v, ov, iv] (setItem ov iv v)
      release [v, ov, iv] []) := fun v => by
    cases ix <;> first | rfl | cases hs
  have hsw' : swapsWithSole [.Subscript (.Name x p) ix p2] e pos.line X.env = pure false := swaps_plain (t := some (.Subscript (.Name x p) ix p2)) (l := pos.line) (env := X.env) hsw
  refine (ps_asg (tV_of he) (pg_sub hx (tV_of hi) (set_ld hu) ha) hsw' rfl rfl).weak fun D σ H ⟨O, ρ, Z, a⟩ => ⟨O, ρ, Z, ?_⟩
  have a2 : AftS P W O H ((rel (ev Φ ce ρ)).bind fun x => if isOwn x.2 i then (rel (ev Φ ci x.2)).bind fun y => match (y.2[i]?).bind Slot.mu? with
    | some d => (R.ofO (setf d y.1 x.1)).map fun d' => .nx (putE y.2 i d')
    | none => .bad
    else .bad) D := a
  refine a2.bind.imp fun dv ρ1 O1 H1 R1 _ q v rv => ?_
  dsimp only at q
  split at q
  · rename_i c
    unfold isOwn at c
    obtain ⟨d0, hd0⟩ := Option.isSome_iff_exists.mp c
    obtain ⟨a, h1, h2, h3, h4⟩ := R1.mu hd0
    refine ⟨.ref a, h1, O1, ρ1, R1, ?_⟩
    refine q.bind.imp fun dk ρ2 O2 H2 R2 x2 q kv rk => ?_
    dsimp only at q
    split at q
    · rename_i d hd
      obtain ⟨d', hs', q⟩ := AftS.of q
      obtain ⟨a', g1, g2, g3, g4⟩ := R2.mu hd
      rw [h1] at g1; cases g1
      unfold setf at hs'
      split at hs'
      · rename_i xs kk
        obtain ⟨j, hj, rfl⟩ := Option.map_eq_some_iff.mp hs'
        obtain ⟨zs, e1, r1⟩ := g3
        cases rk
        have ck := cut_in (H := H2) (O := O2) (o := HO.lst (zs.set j v)) g2
        have R3 := R2.change (o := HO.lst (zs.set j v)) (d' := .lst (xs.set j dv)) hd h1 trivial ⟨_, upd_same, by rw [ck]; exact r1.set j (x2.rep rv)⟩
        exact .inl ⟨a, zs, kk, j, rfl, rfl, e1, by rw [r1.length]; exact hj, q O2 σ _ R3 (ext_in g2)⟩
      · rename_i kvs
        obtain ⟨ky, hk, hs'⟩ := Option.bind_eq_some_iff.mp hs'
        split at hs'
        · rename_i cl
          cases hs'
          obtain ⟨ks, e1, r1⟩ := g3
          have ek := rep_key (O := O2) (H := H2) (.inl rk) hk
          subst ek
          have ck := cut_in (H := H2) (O := O2) (o := HO.dK (L2.putK ks ky v)) g2
          have R3 := R2.change (o := HO.dK (L2.putK ks ky v)) (d' := .dic (putKD kvs ky dv)) hd h1 trivial ⟨_, upd_same, by rw [ck]; exact r1.put ky (x2.rep rv)⟩
          have hs : sizeLine = 16777216 := sizeLine_eq
          exact .inr ⟨a, _, rfl, DPut.k e1 (by rw [hs, r1.length]; exact cl), q O2 σ _ R3 (ext_in g2)⟩
        · cases hs'
      · cases hs'
    · exact q.elim
  · exact q.elim
/-! ### x op= e -/
theorem pip_aug {o : Operator} : PIp X o (fun x y H Q => ∃ O d e r, Rep P.G (cut H O) x d ∧ Rep P.G (cut H O) y e ∧ augf o d e = some r ∧ ∀ v H', Same H H' → Rep P.G (cut H' O) v r → Q v H') := by
  intro pins s σ H x y v u Q I rx ry ⟨O, d, e, r, h1, h2, hg, q⟩
  have hs : sizeLine = 16777216 := sizeLine_eq
  unfold augf at hg
  split at hg
  · cases h1; cases h2; cases hg
    exact iop_add pins s σ H _ _ v u Q I rx ry ⟨_, _, rfl, rfl, q _ _ same_refl (.int _)⟩
  · cases h1; cases h2; cases hg
    exact iop_sub pins s σ H _ _ v u Q I rx ry ⟨_, _, rfl, rfl, q _ _ same_refl (.int _)⟩
  · split at hg <;> cases hg
    rename_i c
    cases h1; cases h2
    exact iop_mulX pins s σ H _ _ v u Q I rx ry ⟨_, _, rfl, rfl, c, q _ _ same_refl (.int _)⟩
  · split at hg <;> cases hg
    rename_i c
    cases h1; cases h2
    exact iop_add_str pins s σ H _ _ v u Q I rx ry ⟨_, _, rfl, rfl, by rw [hs]; exact c, q _ _ same_refl (.str _)⟩
  · cases hg
theorem ps_augD {x : Str} {p pos : Pos} {i : Nat} {e : Expr} {o : Operator} {c : E} (ok : Ok X W P Γ Φ k) (ha : Γ.asgn x = true) (hi : ixOf Γ.N x = some i) (he : PE X e (tE P W Φ c)) :
    PS X (.AugAssign (.Name x p) o e pos) (tS P W (evS Φ (.aug i o c))) := by
  have h1 : X.N[i]? = some x := by rw [ok.N]; exact ixOf_at hi
  have hN : X.N.Nodup := by rw [ok.N]; exact ok.nd
  have ho := pip_aug (X := X) (P := P) (o := o)
  have hps : PS X (.AugAssign (.Name x p) o e pos) (tAug i (tV P W fun ρ => rel (ev Φ c ρ)) (fun x y H Q => ∃ O d e r, Rep P.G (cut H O) x d ∧ Rep P.G (cut H O) y e ∧ augf o d e = some r ∧ ∀ v H', Same H H' → Rep P.G (cut H' O) v r → Q v H')) := by
    unfold Ctx.asgn at ha
    split at ha
    · rename_i e
      have e' : X.env.scope.names.lookup x = some .local := by rw [ok.sc]; exact e
      exact ps_aug hN h1 (.inl e') (tV_of he) ho (.inr e')
    · rename_i e
      have e' : X.env.scope.names.lookup x = some .cell := by rw [ok.sc]; exact e
      exact ps_aug hN h1 (.inr e') (tV_of he) ho (.inl (ok.fn x ha))
    · cases ha
  refine hps.weak fun D σ H ⟨O, ρ, Z, a⟩ => ?_
  replace a : AftS P W O H (match ρ[i]? with
    | some (.val d) => (rel (ev Φ c ρ)).bind fun x => (R.ofO (augf o d x.1)).map fun d' => .nx (x.2.set i (.val d'))
    | _ => .bad) D := a
  split at a
  · rename_i d hd
    obtain ⟨v, h2, h3⟩ := Z.val i d hd
    refine ⟨v, h2, O, ρ, Z, ?_⟩
    refine a.bind.imp fun dy ρ1 O1 H1 R1 x1 q y ry => ?_
    obtain ⟨d', hs', q⟩ := AftS.of q
    refine ⟨O1, d, dy, d', x1.rep h3, ry, hs', fun z H' sm rz => ?_⟩
    have R2 := R1.same sm
    have hl : i < ρ1.length := by
      rw [← R1.len]
      exact (List.getElem?_eq_some_iff.mp h2).1
    exact q O1 _ H' (R2.setV hl rz) (.same sm)
  · exact a.elim
end
end DL
namespace DL
open PySem L2
section
variable {X : Cx} {W : WX} {P : Pm} {Γ : Ctx} {Φ : Nat → Fn} {k : Nat} {O O1 : List Addr} {H H1 : Hp} {σ : St} {ρ : Sts}
/-! ## several stores at once -/
def ownsOf : List V → List Slot → List Addr
  | .ref a :: vs, .own _ :: ss => a :: ownsOf vs ss
  | _ :: vs, _ :: ss => ownsOf vs ss
  | _, _ => []
def tPs (P : Pm) (W : WX) (Φ : Nat → Fn) (cs : List E) : TA := fun σ H Q => ∃ O ρ, Rel P O ρ σ H ∧ Aft P W σ O H (evPs Φ cs ρ) fun ss ρ' O' H' => ∀ vs, Paired (RepR P O' ρ' σ H') vs ss → (ownsOf vs ss).Nodup → Q vs H'
def xPs (P : Pm) (W : WX) (Φ : Nat → Fn) (cs : List E) : TA := fun σ H Q => ∃ P' : Pm, P'.G = P.G ∧ tPs P' W Φ cs σ H Q
theorem Rel.hidIn {a : Addr} {o : HO} (R : Rel P O ρ σ H) (h1 : a ∈ O) (h2 : a ∉ P.ex) (ap : Apart ρ σ a) (ho : H a = some o) : Rel (P.hid a o) O ρ σ H := by
  refine ⟨R.len, R.val, fun i d e => ?_, R.io, R.dis, R.iod, fun b x k1 k2 => ?_, fun b k => ?_, R.odom, fun b k => ?_, fun b k => List.mem_cons_of_mem _ (R.sub b k)⟩
  · obtain ⟨b, q1, q2, q3, q4⟩ := R.own i d e
    refine ⟨b, q1, q2, fun z => ?_, q4⟩
    rcases List.mem_cons.mp z with rfl | z
    · exact ap i d e q1
    · exact q3 z
  · replace k2 : upd P.H0 a o b = some x := k2
    by_cases hb : b = a
    · subst hb; rw [upd_same] at k2; rw [ho]; exact k2
    · rw [upd_ne hb] at k2
      exact R.fr b x k1 k2
  · show b ∈ a :: P.ex ∨ upd P.H0 a o b = none
    by_cases ha : b = a
    · exact .inl (by rw [ha]; exact List.mem_cons_self)
    · rw [upd_ne ha]
      exact (R.ofr b k).imp (List.mem_cons_of_mem _) id
  · rcases List.mem_cons.mp k with rfl | k
    · exact h1
    · exact R.exs b k
theorem RepR.ext {v : V} {s : Slot} {P' : Pm} {ρ' : Sts} (h : RepR P' O ρ σ H v s) (hG : P'.G = P.G) (he : ∀ a, a ∈ P.ex → a ∈ P'.ex) : RepR P O ρ σ H v s := by
  cases s with
  | val d => rw [RepR, hG] at h; exact h
  | own d =>
    obtain ⟨a, h1, h2, h3, h4, h5⟩ := h
    exact ⟨a, h1, h2, fun z => h3 (he a z), h4, by rw [hG] at h5; exact h5⟩
  | emp => exact h
  | io _ => exact h
theorem mem_owns {a : Addr} : ∀ {vs : List V} {ss : List Slot}, Paired (RepR P O ρ σ H) vs ss → a ∈ ownsOf vs ss → a ∉ P.ex
  | _, _, .nil, h => by simp [ownsOf] at h
  | _, _, .cons (a := v) (b := s) r rs, h => by
    cases s with
    | own d =>
      obtain ⟨b, rfl, h1, h2, _⟩ := r
      replace h : a ∈ b :: ownsOf _ _ := h
      rcases List.mem_cons.mp h with rfl | h
      · exact h2
      · exact mem_owns rs h
    | val d =>
      refine mem_owns rs ?_
      cases v <;> exact h
    | emp => exact r.elim
    | io _ => exact r.elim
theorem Paired.imp {α β : Type} {F F' : α → β → Prop} : ∀ {l : List α} {m : List β}, Paired F l m → (∀ a b, F a b → F' a b) → Paired F' l m
  | _, _, .nil, _ => .nil
  | _, _, .cons h t, k => .cons (k _ _ h) (Paired.imp t k)
theorem Paired.len {α β : Type} {F : α → β → Prop} : ∀ {l : List α} {m : List β}, Paired F l m → l.length = m.length
  | _, _, .nil => rfl
  | _, _, .cons _ t => by simp [Paired.len t]
/-- lists of compiled expressions, for any frame -/
def SndX (X : Cx) (P : Pm) (W : WX) (Φ : Nat → Fn) (es : List Expr) (cs : List E) : Prop := ∀ P' : Pm, P'.G = P.G → SndL X P' W Φ es cs
theorem SndX.ps : ∀ {es : List Expr} {cs : List E} {P : Pm}, SndX X P W Φ es cs → PA X es (tPs P W Φ cs)
  | [], cs, P, h => by
    cases h P rfl
    exact pa_nil.weak fun σ H Q ⟨O, ρ, Z, a⟩ => Aft.now a Z [] .nil (by simp [ownsOf])
  | e :: es, cs, P, h => by
    cases hc : cs with
    | nil => cases hc; cases h P rfl
    | cons c cs' =>
      cases hc
      have hn : nst e = true := by cases h P rfl; assumption
      have hd : ∀ P' : Pm, P'.G = P.G → Snd X P' W Φ e c := fun P' hG => by cases h P' hG; assumption
      have tl : ∀ P' : Pm, P'.G = P.G → PA X es (tPs P' W Φ cs') := fun P' hG => SndX.ps (P := P') fun P2 h2 => by
        cases h P2 (h2.trans hG); assumption
      have tx : PA X es (xPs P W Φ cs') := ⟨fun pos pins s σ H Q I ⟨P', hG, z⟩ => (tl P' hG).run pos pins s σ H Q I z⟩
      refine (pa_consN hn (hd P rfl).pe tx).weak fun σ H Q ⟨O, ρ, Z, a⟩ => ⟨O, ρ, Z, ?_⟩
      have a2 : Aft P W σ O H ((ev Φ c ρ).bind fun p => (evPs Φ cs' p.2).map fun q => (p.1 :: q.1, q.2)) fun ss ρ' O' H' => ∀ vs, Paired (RepR P O' ρ' σ H') vs ss → (ownsOf vs ss).Nodup → Q vs H' := a
      refine a2.bind.imp fun s ρ1 O1 H1 R1 _ q v rv => ?_
      have q := Aft.map (f := fun q : List Slot × Sts => (s :: q.1, q.2)) (fun _ => rfl) q
      cases s with
      | val d =>
        refine ⟨P, rfl, O1, ρ1, R1, q.imp fun ss ρ2 O2 H2 R2 x2 q vs rvs nd => q _ (.cons (x2.rep rv) rvs) ?_⟩
        cases v <;> exact nd
      | own d =>
        obtain ⟨a, rfl, h1, h2, h3, h4⟩ := rv
        have h0 : P.H0 a = none := (R1.ofr a h1).resolve_left h2
        cases d with
        | lst ds =>
          obtain ⟨xs, g1, g2⟩ := h4
          refine ⟨P.hid a (.lst xs), rfl, O1, ρ1, R1.hidIn h1 h2 h3 g1, ?_⟩
          revert q
          cases evPs Φ cs' ρ1 with
          | bad => exact fun q => q
          | exc cc x ρ2 => exact fun q O2 H2 cv dd R2 x2 ex => q O2 H2 cv dd (R2.hidOut h2 h0 R1.sub).1 x2 ex
          | ok p =>
            intro q O2 H2 R2 x2 vs rvs nd
            obtain ⟨R3, ap⟩ := R2.hidOut h2 h0 R1.sub
            obtain ⟨k1, k2⟩ := R2.hidAt h2 R1.sub
            refine q O2 H2 R3 x2 _ (.cons ⟨a, rfl, k2, h2, ap, xs, k1, x2.reps g2⟩ (DL.Paired.imp rvs fun w t r => r.ext (ρ' := ρ1) rfl fun b hb => List.mem_cons_of_mem _ hb)) ?_
            show (a :: ownsOf vs p.1).Nodup
            exact List.nodup_cons.mpr ⟨fun m => mem_owns rvs m List.mem_cons_self, nd⟩
        | dic ds =>
          obtain ⟨xs, g1, g2⟩ := h4
          refine ⟨P.hid a (.dK xs), rfl, O1, ρ1, R1.hidIn h1 h2 h3 g1, ?_⟩
          revert q
          cases evPs Φ cs' ρ1 with
          | bad => exact fun q => q
          | exc cc x ρ2 => exact fun q O2 H2 cv dd R2 x2 ex => q O2 H2 cv dd (R2.hidOut h2 h0 R1.sub).1 x2 ex
          | ok p =>
            intro q O2 H2 R2 x2 vs rvs nd
            obtain ⟨R3, ap⟩ := R2.hidOut h2 h0 R1.sub
            obtain ⟨k1, k2⟩ := R2.hidAt h2 R1.sub
            refine q O2 H2 R3 x2 _ (.cons ⟨a, rfl, k2, h2, ap, xs, k1, KReps.mono x2.cuts g2⟩ (DL.Paired.imp rvs fun w t r => r.ext (ρ' := ρ1) rfl fun b hb => List.mem_cons_of_mem _ hb)) ?_
            show (a :: ownsOf vs p.1).Nodup
            exact List.nodup_cons.mpr ⟨fun m => mem_owns rvs m List.mem_cons_self, nd⟩
        | _ => exact h4.elim
      | emp => exact rv.elim
      | io _ => exact rv.elim
/-- one store, the others not yet stored -/
theorem setT2 (R : Rel P O ρ σ H) {i : Nat} {o : Bool} {s : Slot} {v : V} {ρ' : Sts} (hs : RepR P O ρ σ H v s) (h : assignT (.name i o) s ρ = some ρ') : ∃ O', Rel P O' ρ' (σ.set i (some v)) H ∧ Ext O H O' H ∧
    ∀ w t, RepR P O ρ σ H w t → (∀ d e, s = .own d → t = .own e → w ≠ v) → RepR P O' ρ' (σ.set i (some v)) H w t := by
  replace h : (if i < ρ.length then some (ρ.set i (if o then s else .val s.d)) else none) = some ρ' := h
  split at h
  rotate_left
  · cases h
  rename_i hi
  cases h
  have ls : i < σ.length := by rw [R.len]; exact hi
  -- apart from b: the slots but i, and what is put there
  have apart : ∀ {b : Addr} {s' : Slot}, Apart ρ σ b → (∀ d, s' = .own d → v ≠ .ref b) → Apart (ρ.set i s') (σ.set i (some v)) b := fun {b s'} ap hv j d e z => by
    by_cases hj : i = j
    · subst hj
      rw [List.getElem?_set_self hi] at e
      rw [List.getElem?_set_self ls] at z
      cases e
      have := hv d rfl
      cases z
      exact this rfl
    · rw [List.getElem?_set_ne hj] at e z
      exact ap j d e z
  cases s with
  | val d =>
    have e : (if o = true then Slot.val d else .val (Slot.val d).d) = .val d := by cases o <;> rfl
    rw [e]
    refine ⟨O, R.setV hi hs, .refl, fun w t r _ => ?_⟩
    cases t with
    | val e => exact r
    | own e =>
      obtain ⟨b, k1, k2, k3, k4, k5⟩ := r
      exact ⟨b, k1, k2, k3, apart k4 (fun d z => by cases z), k5⟩
    | emp => exact r
    | io _ => exact r
  | own d =>
    obtain ⟨a, rfl, h1, h2, h3, h4⟩ := hs
    cases o with
    | true =>
      rw [if_pos rfl]
      refine ⟨O, R.setO hi h1 h2 h3 h4, .refl, fun w t r ne => ?_⟩
      cases t with
      | val e => exact r
      | own e =>
        obtain ⟨b, k1, k2, k3, k4, k5⟩ := r
        refine ⟨b, k1, k2, k3, apart k4 (fun d' z hb => ?_), k5⟩
        exact ne d e rfl rfl (by rw [k1, hb])
      | emp => exact r
      | io _ => exact r
    | false =>
      rw [if_neg Bool.false_ne_true]
      have k := (ext_drop (O := O) (H := H) a).cuts
      have R1 := R.release h2 h3
      have rp : Rep P.G (cut H (O.filter (· ≠ a))) (.ref a) d := h4.rep k fun o e => cut_some.mpr ⟨by simp, e⟩
      refine ⟨_, R1.setV hi rp, ext_drop a, fun w t r ne => ?_⟩
      cases t with
      | val e => exact Rep.mono k r
      | own e =>
        obtain ⟨b, k1, k2, k3, k4, k5⟩ := r
        have hb : b ≠ a := fun z => ne d e rfl rfl (by rw [k1, z])
        exact ⟨b, k1, List.mem_filter.mpr ⟨k2, by simpa using hb⟩, k3, apart k4 (fun d' z => by cases z), k5.mono (fun _ q => q) k⟩
      | emp => exact r
      | io _ => exact r
  | emp => exact hs.elim
  | io _ => exact hs.elim
def setAll : St → List (Nat × Bool) → List V → St
  | σ, (i, _) :: ts, v :: vs => setAll (σ.set i (some v)) ts vs
  | σ, _, _ => σ
theorem setPs : ∀ {ts : List (Nat × Bool)} {ss : List Slot} {vs : List V} {O : List Addr} {ρ ρ' : Sts} {σ : St}, Rel P O ρ σ H → Paired (RepR P O ρ σ H) vs ss → (ownsOf vs ss).Nodup → assignPs ts ss ρ = some ρ' → ∃ O', Rel P O' ρ' (setAll σ ts vs) H ∧ Ext O H O' H
  | [], ss, vs, O, ρ, ρ', σ, R, rs, nd, h => by
    cases rs with
    | nil => cases h; exact ⟨O, R, .refl⟩
    | cons _ _ => cases h
  | (i, o) :: ts, ss, vs, O, ρ, ρ', σ, R, rs, nd, h => by
    cases rs with
    | nil => cases h
    | cons r rs =>
      rename_i v s vs ss
      replace h : (assignT (.name i o) s ρ).bind (fun ρ1 => assignPs ts ss ρ1) = some ρ' := h
      obtain ⟨ρ1, h1, h2⟩ := Option.bind_eq_some_iff.mp h
      obtain ⟨O1, R1, x1, k⟩ := setT2 R r h1
      have nd2 : (ownsOf vs ss).Nodup ∧ ∀ d a, s = .own d → v = .ref a → a ∉ ownsOf vs ss := by
        cases s with
        | own d =>
          obtain ⟨a, rfl, _⟩ := r
          replace nd : (a :: ownsOf vs ss).Nodup := nd
          have := List.nodup_cons.mp nd
          exact ⟨this.2, fun d' a' _ z => by cases z; exact this.1⟩
        | val d => exact ⟨by cases v <;> exact nd, fun d' a' z => by cases z⟩
        | emp => exact r.elim
        | io _ => exact r.elim
      have ne : ∀ w t, (w, t) ∈ vs.zip ss → ∀ a e, w = .ref a → t = .own e → a ∈ ownsOf vs ss := by
        clear nd2 h2 k nd h
        induction rs with
        | nil => intro w t m; simp at m
        | cons r' rs' ih =>
          intro w t m a e hw ht
          rename_i w' t' vs' ss'
          rw [List.zip_cons_cons] at m
          rcases List.mem_cons.mp m with z | z
          · cases z
            subst hw ht
            exact List.mem_cons_self
          · have := ih w t z a e hw ht
            cases w' <;> cases t' <;> first
              | exact this
              | exact List.mem_cons_of_mem _ this
      have rs2 : Paired (RepR P O1 ρ1 (σ.set i (some v)) H) vs ss := by
        have gen : ∀ {vs' : List V} {ss' : List Slot}, Paired (RepR P O ρ σ H) vs' ss' → (∀ w t, (w, t) ∈ vs'.zip ss' → (w, t) ∈ vs.zip ss) → Paired (RepR P O1 ρ1 (σ.set i (some v)) H) vs' ss' := fun {vs' ss'} p => by
          induction p with
          | nil => intro _; exact .nil
          | cons r' _ ih =>
            intro hm
            rename_i w t _ _ 
            refine .cons (k _ _ r' fun d e hs ht hw => ?_) (ih fun w t m => hm w t (by rw [List.zip_cons_cons]; exact List.mem_cons_of_mem _ m))
            subst hs ht
            obtain ⟨a, rfl, _⟩ := r'
            have m := hm _ _ (by rw [List.zip_cons_cons]; exact List.mem_cons_self)
            exact nd2.2 d a rfl hw.symm (ne _ _ m a e rfl rfl)
        exact gen rs fun _ _ m => m
      obtain ⟨O2, R2, x2⟩ := setPs R1 rs2 nd2.1 h2
      exact ⟨O2, R2, x1.trans x2⟩
/-! ### when the stores are swapped -/
def isFun : ScopeKind → Bool
  | .function => true
  | _ => false
def swapK (sc : Scope) (ts vs : List Expr) : Option (Option (List Str)) :=
  if !(ts.length == 2 || ts.length == 3) || vs.length != ts.length then some none
  else if vs.any fun | .Starred .. => true | _ => false then some none
  else
    let line := (ts.head?.map (·.pos.line)).getD 0
    let names := ts.filterMap fun
      | .Name id pos => if sc.names.lookup id == some .local && pos.line == line then some id else none
      | _ => none
    if names.length != ts.length || names.eraseDups.length != names.length then some none
    else if vs.all (foldedForSure 8) then some none
    else if vs.all (constantsAlone 8) then none
    else some (some names)
theorem swap_of {env : PySem.Env} {ts vs : List Expr} {kt k2 : Nat} {p p2 : Pos} {r : Option (List Str)} (hk : isFun env.scope.kind = true) (h : swapK env.scope ts vs = some r) : swappedStores [.Tuple ts kt p] (.Tuple vs k2 p2) env = pure r := by
  have hb : env.blockKind = .function := by
    unfold Env.blockKind
    cases e : env.scope.kind <;> rw [e] at hk <;> first | rfl | cases hk
  have hb' : (env.blockKind != .function) = false := by rw [hb]; rfl
  unfold swapK at h
  unfold swappedStores Env.kindOf
  simp only [hb', Bool.or_false]
  dsimp only at h
  split at h
  · rename_i c; cases h; exact if_pos c
  rename_i c
  refine (if_neg c).trans ?_
  split at h
  · rename_i c; cases h; exact if_pos c
  rename_i c
  refine (if_neg c).trans ?_
  split at h
  · rename_i c; cases h; exact if_pos c
  rename_i c
  refine (if_neg c).trans ?_
  split at h
  · rename_i c; cases h; exact if_pos c
  rename_i c
  refine (if_neg c).trans ?_
  split at h
  · cases h
  rename_i c
  cases h
  exact if_neg c
theorem par_rd {ts : List (Nat × Bool)} {cs : List E} {D : Ends} (h : tS P W (evS Φ (.par ts cs)) D σ H) : tPs P W Φ cs σ H fun vs H1 => D.nx (setAll σ ts vs) H1 := by
  obtain ⟨O, ρ, Z, a⟩ := h
  refine ⟨O, ρ, Z, ?_⟩
  have a2 : AftS P W O H ((evPs Φ cs ρ).bind fun p => (R.ofO (assignPs ts p.1 p.2)).map .nx) D := a
  refine a2.bind.imp fun ss ρ1 O1 H1 R1 _ q vs rvs nd => ?_
  obtain ⟨ρ2, h1, q⟩ := AftS.of q
  obtain ⟨O2, R2, x2⟩ := setPs R1 rvs nd h1
  exact q O2 _ H1 R2 x2
theorem tPs.imp {cs : List E} {Q Q' : List V → Hp → Prop} (h : tPs P W Φ cs σ H Q) (hl : ∀ v H', v.length = cs.length → Q v H' → Q' v H') : tPs P W Φ cs σ H Q' := by
  obtain ⟨O, ρ, Z, a⟩ := h
  refine ⟨O, ρ, Z, a.eq.imp fun ss ρ1 O1 H1 R1 _ ⟨e, q⟩ vs rvs nd => hl _ _ ?_ (q vs rvs nd)⟩
  have l1 : vs.length = ss.length := DL.Paired.len rvs
  have l2 : ∀ {cs : List E} {ρ : Sts} {p : List Slot × Sts}, evPs Φ cs ρ = .ok p → p.1.length = cs.length := fun {cs} => by
    induction cs with
    | nil => intro ρ p h; cases h; rfl
    | cons c cs ih =>
      intro ρ p h
      replace h : ((ev Φ c ρ).bind fun p => (evPs Φ cs p.2).map fun q => (p.1 :: q.1, q.2)) = .ok p := h
      obtain ⟨p1, h1, h2⟩ := bind_okR h
      obtain ⟨p2, h3, h4⟩ := map_okR h2
      cases h4
      simp [ih h3]
  rw [l1, l2 e]
theorem ps_par2D {x y : Str} {i j : Nat} {ox oy : Bool} {a b : Expr} {ca cb : E} {px py pt pos : Pos} {kt k2 : Nat} {pt2 : Pos} (ok : Ok X W P Γ Φ k) (hk : isFun Γ.sc.kind = true) (hsw : swapK Γ.sc [.Name x px, .Name y py] [a, b] = some (some [x, y]))
    (hi : ixOf Γ.N x = some i) (hj : ixOf Γ.N y = some j) (hx : Γ.sc.names.lookup x = some .local) (hy : Γ.sc.names.lookup y = some .local) (hne : x ≠ y) (h : SndX X P W Φ [a, b] [ca, cb]) :
    PS X (.Assign [.Tuple [.Name x px, .Name y py] kt pt] (.Tuple [a, b] k2 pt2) pos) (tS P W (evS Φ (.par [(i, ox), (j, oy)] [ca, cb]))) := by
  have hN : X.N.Nodup := by rw [ok.N]; exact ok.nd
  have h1 : X.N[i]? = some x := by rw [ok.N]; exact ixOf_at hi
  have h2 : X.N[j]? = some y := by rw [ok.N]; exact ixOf_at hj
  have hij : i ≠ j := fun z => hne (by subst z; rw [h1] at h2; exact Option.some.inj h2)
  refine (ps_par ok.calm hN h1 h2 hij (by rw [ok.sc]; exact hx) (by rw [ok.sc]; exact hy) h.ps (swap_of (by rw [ok.sc]; exact hk) (by rw [ok.sc]; exact hsw))).weak fun D σ H h => ?_
  refine (par_rd h).imp fun vs H1 hl q => ?_
  match vs, hl with
  | [v, w], _ => exact ⟨v, w, rfl, q⟩
theorem ps_par3D {x y z : Str} {i j l : Nat} {ox oy oz : Bool} {a b c : Expr} {ca cb cc : E} {px py pz pt pos : Pos} {kt k2 : Nat} {pt2 : Pos} (ok : Ok X W P Γ Φ k) (hk : isFun Γ.sc.kind = true) (hsw : swapK Γ.sc [.Name x px, .Name y py, .Name z pz] [a, b, c] = some (some [x, y, z]))
    (hi : ixOf Γ.N x = some i) (hj : ixOf Γ.N y = some j) (hl : ixOf Γ.N z = some l) (hx : Γ.sc.names.lookup x = some .local) (hy : Γ.sc.names.lookup y = some .local) (hz : Γ.sc.names.lookup z = some .local) (hne : x ≠ y) (hne2 : x ≠ z) (hne3 : y ≠ z) (h : SndX X P W Φ [a, b, c] [ca, cb, cc]) :
    PS X (.Assign [.Tuple [.Name x px, .Name y py, .Name z pz] kt pt] (.Tuple [a, b, c] k2 pt2) pos) (tS P W (evS Φ (.par [(i, ox), (j, oy), (l, oz)] [ca, cb, cc]))) := by
  have hN : X.N.Nodup := by rw [ok.N]; exact ok.nd
  have h1 : X.N[i]? = some x := by rw [ok.N]; exact ixOf_at hi
  have h2 : X.N[j]? = some y := by rw [ok.N]; exact ixOf_at hj
  have h3 : X.N[l]? = some z := by rw [ok.N]; exact ixOf_at hl
  have hij : i ≠ j := fun e => hne (by subst e; rw [h1] at h2; exact Option.some.inj h2)
  have hil : i ≠ l := fun e => hne2 (by subst e; rw [h1] at h3; exact Option.some.inj h3)
  have hjl : j ≠ l := fun e => hne3 (by subst e; rw [h2] at h3; exact Option.some.inj h3)
  refine (ps_par3 ok.calm hN h1 h2 h3 hij hil hjl (by rw [ok.sc]; exact hx) (by rw [ok.sc]; exact hy) (by rw [ok.sc]; exact hz) h.ps (swap_of (by rw [ok.sc]; exact hk) (by rw [ok.sc]; exact hsw))).weak fun D σ H h => ?_
  refine (par_rd h).imp fun vs H1 hl q => ?_
  match vs, hl with
  | [u, v, w], _ => exact ⟨u, v, w, rfl, q⟩
/-! ### .. and when a tuple is made first -/
def parN (Γ : Ctx) : List Expr → Option (List (Nat × Bool))
  | [] => some []
  | .Name x _ :: ts => if Γ.asgn x then match ixOf Γ.N x, parN Γ ts with
      | some i, some r => some ((i, Γ.M.contains x) :: r)
      | _, _ => none else none
  | _ :: _ => none
theorem parN_snd (ok : Ok X W P Γ Φ k) : ∀ {ts : List Expr} {ps : List (Nat × Bool)}, parN Γ ts = some ps → ps.length = ts.length ∧ ts.all nst = true ∧ PGs X ts (fun vs σ H Q => vs.length = ps.length ∧ Q (setAll σ ps vs) H)
  | [], ps, h => by
    cases h
    refine ⟨rfl, rfl, pgs_nil.weak fun v σ H Q ⟨z, q⟩ => ?_⟩
    cases v with
    | nil => exact ⟨rfl, q⟩
    | cons _ _ => cases z
  | .Name x p :: ts, ps, h => by
    unfold parN at h
    split at h
    rotate_left
    · cases h
    rename_i ha
    split at h
    · rename_i i r h1 h2
      cases h
      obtain ⟨q1, q2, q3⟩ := parN_snd ok h2
      refine ⟨by simp [q1], by rw [List.all_cons, q2]; rfl, (pgs_cons (ok.tgt ha h1) q3 (by rw [each_nst rfl]; rfl)).weak fun v σ H Q ⟨z, q⟩ => ?_⟩
      cases v with
      | nil => cases z
      | cons v vs => exact ⟨v, vs, rfl, by simpa using z, q⟩
    · cases h
  | .BoolOp .. :: _, _, h | .NamedExpr .. :: _, _, h | .BinOp .. :: _, _, h | .UnaryOp .. :: _, _, h | .Lambda .. :: _, _, h | .IfExp .. :: _, _, h | .Dict .. :: _, _, h | .Set .. :: _, _, h
  | .ListComp .. :: _, _, h | .SetComp .. :: _, _, h | .DictComp .. :: _, _, h | .GeneratorExp .. :: _, _, h | .Await .. :: _, _, h | .Yield .. :: _, _, h | .YieldFrom .. :: _, _, h | .Compare .. :: _, _, h
  | .Call .. :: _, _, h | .FormattedValue .. :: _, _, h | .JoinedStr .. :: _, _, h | .Constant .. :: _, _, h | .Attribute .. :: _, _, h | .Subscript .. :: _, _, h | .Starred .. :: _, _, h | .List .. :: _, _, h | .Slice .. :: _, _, h | .Tuple .. :: _, _, h => by cases h
theorem RepR.same {v : V} {s : Slot} {H' : Hp} (h : RepR P O ρ σ H v s) (e : Same H H') : RepR P O ρ σ H' v s := by
  have k : ∀ b o, cut H O b = some o → cut H' O b = some o := (Ext.same e).cuts
  cases s with
  | val d => exact Rep.mono k h
  | own d =>
    obtain ⟨a, h1, h2, h3, h4, h5⟩ := h
    exact ⟨a, h1, h2, h3, h4, h5.mono (fun o => e a o) k⟩
  | emp => exact h
  | io _ => exact h
theorem ps_parN {ts vs : List Expr} {cs : List E} {ps : List (Nat × Bool)} {kt k2 : Nat} {pt pt2 pos : Pos} (ok : Ok X W P Γ Φ k) (hk : isFun Γ.sc.kind = true) (hsw : swapK Γ.sc ts vs = some none) (hn : parN Γ ts = some ps) (hl : cs.length = ps.length) (hm : cs.length ≤ 100) (h : SndX X P W Φ vs cs) :
    PS X (.Assign [.Tuple ts kt pt] (.Tuple vs k2 pt2) pos) (tS P W (evS Φ (.par ps cs))) := by
  obtain ⟨q1, q2, q3⟩ := parN_snd ok hn
  obtain ⟨l1, l2⟩ := each_len (env := X.env) q2
  have hs : sizeLine = 16777216 := sizeLine_eq
  refine (ps_asg (pe_tup h.ps) (pg_tup (n := ts.length) ok.calm q3 l1 l2) rfl (swap_of (by rw [ok.sc]; exact hk) (by rw [ok.sc]; exact hsw)) rfl).weak fun D σ H h => ?_
  obtain ⟨O, ρ, Z, a⟩ := h
  have a2 : AftS P W O H ((evPs Φ cs ρ).bind fun p => (R.ofO (assignPs ps p.1 p.2)).map .nx) D := a
  refine tPs.imp (Q := fun vs H1 => ∀ T, H1 T = none → D.nx (setAll σ ps vs) (upd H1 T (.tup vs))) ⟨O, ρ, Z, ?_⟩ fun v H' lv q => ?_
  · refine a2.bind.imp fun ss ρ1 O1 H1 R1 _ q vs rvs nd T hT => ?_
    obtain ⟨ρ2, h1, q⟩ := AftS.of q
    have sm : Same H1 (upd H1 T (.tup vs)) := same_upd hT
    obtain ⟨O2, R2, x2⟩ := setPs (R1.same sm) (DL.Paired.imp rvs fun w t r => r.same sm) nd h1
    exact q O2 _ _ R2 ((Ext.same sm).trans x2)
  · refine ⟨by rw [lv]; omega, fun T hT => ⟨T, v, rfl, ?_, by rw [lv, hl, q1], by rw [lv, hl], q T hT⟩⟩
    exact .inl (.inl upd_same)
end
end DL
namespace DL
open PySem L2
def swLc (sc scope : Scope) (t : Str) (l1 l2 : Nat) : Bool := sc.names.lookup t == some .local && l1 == l2 && !(scope.names.any fun (n, k) => n == t && (k == .local || k == .cell))
def parE (Γ : Ctx) (names : List Str) (ts vs : List Expr) (cs : List E) : Option S := match ts, vs, cs with
  | [.Name x _, .Name y _], [a, b], [ca, cb] => if names = [x, y] && nst a && nst b && decide (x ≠ y) && (Γ.sc.names.lookup x == some .local) && (Γ.sc.names.lookup y == some .local) then match ixOf Γ.N x, ixOf Γ.N y with
      | some i, some j => some (.par [(i, Γ.M.contains x), (j, Γ.M.contains y)] [ca, cb])
      | _, _ => none else none
  | [.Name x _, .Name y _, .Name z _], [a, b, c], [ca, cb, cc] => if names = [x, y, z] && nst a && nst b && nst c && decide (x ≠ y) && decide (x ≠ z) && decide (y ≠ z) && (Γ.sc.names.lookup x == some .local) && (Γ.sc.names.lookup y == some .local) && (Γ.sc.names.lookup z == some .local) then match ixOf Γ.N x, ixOf Γ.N y, ixOf Γ.N z with
      | some i, some j, some l => some (.par [(i, Γ.M.contains x), (j, Γ.M.contains y), (l, Γ.M.contains z)] [ca, cb, cc])
      | _, _, _ => none else none
  | _, _, _ => none
def exprS (n : Nat) (Γ : Ctx) (e : Expr) : Option S := match e with
  | .Constant c _ _ => match c with
    | .str _ => some .pass
    | _ => none
  | e => if notComp e then (cmpE n Γ false e).map .exp else none
def retS (n : Nat) (Γ : Ctx) (e : Expr) : Option S := match e with
  | .Name x _ => match nameE Γ x with
    | some (.var i) => some (.reto i)
    | some (.lit d) => some (.ret (.lit d))
    | _ => none
  | e => (cmpE n Γ false e).map .ret
def setiS (n : Nat) (Γ : Ctx) (x : Str) (ix e : Expr) : Option S :=
  if !(notComp e && !isSlice ix && Γ.vis x && !(x == ("__debug__" : Str)) && !(x == ("__classdict__" : Str))) then none else match ixOf Γ.N x, cmpE n Γ false ix, cmpE n Γ false e with
    | some i, some ci, some ce => some (.seti i ci ce)
    | _, _, _ => none
def asgS (n : Nat) (Γ : Ctx) (tg e : Expr) : Option S := if plainSt tg e && notComp e then match tgtE n Γ tg, cmpE n Γ false e with
    | some t, some c => some (.asg t c)
    | _, _ => none else none
def lcS (n : Nat) (Γ : Ctx) (tg e : Expr) : Option S := if isFun Γ.sc.kind then match tgtE n Γ tg, cmpE n Γ false e with
    | some t, some c => some (.asg t c)
    | _, _ => none else none
def tupS (n : Nat) (Γ : Ctx) (tg e : Expr) (ts vs : List Expr) : Option S := if isFun Γ.sc.kind then match swapK Γ.sc ts vs with
    | some none => match parN Γ ts with
      | some ps => if vs.all nst then match mapO (cmpE n Γ false) vs with
        | some cs => if cs.length = ps.length ∧ cs.length ≤ 100 then some (.par ps cs) else none
        | none => none else none
      | none => match tgtE n Γ tg, cmpE n Γ false e with
        | some t, some c => some (.asg t c)
        | _, _ => none
    | some (some names) => match mapO (cmpE n Γ false) vs with
      | some cs => parE Γ names ts vs cs
      | none => none
    | none => none else none
def nameS (n : Nat) (Γ : Ctx) (x : Str) (p : Pos) (e : Expr) : Option S := match e with
  | .ListComp elt gens scope lp => lcS n Γ (.Name x p) (.ListComp elt gens scope lp)
  | e => asgS n Γ (.Name x p) e
def tupleS (n : Nat) (Γ : Ctx) (ts : List Expr) (kt : Nat) (pt : Pos) (e : Expr) : Option S := match e with
  | .Tuple vs k2 p2 => tupS n Γ (.Tuple ts kt pt) (.Tuple vs k2 p2) ts vs
  | e => asgS n Γ (.Tuple ts kt pt) e
def subS (n : Nat) (Γ : Ctx) (o ix e : Expr) : Option S := match o with
  | .Name x _ => setiS n Γ x ix e
  | _ => none
def tgS (n : Nat) (Γ : Ctx) (tg e : Expr) : Option S := match tg with
  | .Name x p => nameS n Γ x p e
  | .Tuple ts kt pt => tupleS n Γ ts kt pt e
  | .Subscript o ix _ => subS n Γ o ix e
  | _ => none
def augS (n : Nat) (Γ : Ctx) (tg : Expr) (o : Operator) (e : Expr) : Option S := match tg with
  | .Name x _ => if Γ.asgn x then match ixOf Γ.N x, cmpE n Γ false e with
    | some i, some c => some (.aug i o c)
    | _, _ => none else none
  | _ => none
def isNil {α : Type} : List α → Bool
  | [] => true
  | _ => false
def wNm : Expr → Option Str
  | .Name x _ => some x
  | _ => none
def wArgs : List Expr → Option Str
  | [e] => wNm e
  | _ => none
def wCall : Expr → Option (Str × Str)
  | .Call f es ks _ => if isNil ks then match wNm f, wArgs es with
    | some a, some b => some (a, b)
    | _, _ => none else none
  | _ => none
def wRet : Stmt → Option (Str × Str)
  | .Return (some e) _ => wCall e
  | _ => none
def wSuite : List Stmt → Option (Str × Str)
  | [s] => wRet s
  | _ => none
def wordH (Γ : Ctx) : ExceptHandler → Option (List (Str × Wd) × Nat)
  | .ExceptHandler (some x) (some n) b _ => match wNm x, wSuite b, Γ.wd, ixOf Γ.N n with
    | some c, some (f, m), some (nm, hs), some i => if decide (c = "SetError") && decide (f = nm) && decide (m = n) && Γ.gl c && Γ.gl nm && (Γ.sc.names.lookup n == some .local) && !(n == ("__debug__" : Str)) && !(n == ("__classdict__" : Str)) then some (hs, i) else none
    | _, _, _, _ => none
  | _ => none
def tryS (Γ : Ctx) (cb : List S) (hs : List ExceptHandler) : S := match hs with
  | [h] => match wordH Γ h with
    | some w => .tryw cb w.1 w.2
    | none => .tryn cb
  | _ => .tryn cb
def raiseE (n : Nat) (Γ : Ctx) (f : Expr) (es : List Expr) : Option S := match wNm f, es with
  | some c, [e] => if Γ.gl c && nst e then match Γ.xs.lookup c, cmpE n Γ false e with
    | some _, some ce => some (.raise c ce)
    | _, _ => none else none
  | _, _ => none
def raiseC (n : Nat) (Γ : Ctx) : Expr → Option S
  | .Call f es ks _ => if isNil ks then raiseE n Γ f es else none
  | _ => none
def raiseS (n : Nat) (Γ : Ctx) (a b : Option Expr) : S := match a, b with
  | some e, none => (raiseC n Γ e).getD (.raise "" (.lit .non))
  | _, _ => .raise "" (.lit .non)
def cmpS : Nat → Ctx → Stmt → Option S
  | 0, _, _ => none
  | n + 1, Γ, st => if Γ.dead then some (.raise "" (.lit .non)) else match st with
    | .Expr e _ => exprS n Γ e
    | .Pass _ => some .pass
    | .Break _ => some .brk
    | .Continue _ => some .cnt
    | .Return oe _ => match oe with
      | none => some .retn
      | some e => retS n Γ e
    | .If t a b _ => match cmpE n Γ true t, mapO (cmpS n Γ) a, mapO (cmpS n Γ) b with
      | some ct, some ca, some cb => some (.ite ct ca cb)
      | _, _, _ => none
    | .While t b oe _ => if isNil oe then match cmpE n Γ true t, mapO (cmpS n Γ) b with
      | some ct, some cb => some (.whl ct cb)
      | _, _ => none else none
    | .For tg it b oe _ => if isDisp it || !isNil oe then none else match tgtE n Γ tg, srcE (cmpE n Γ false) Γ tg it, mapO (cmpS n Γ) b with
      | some t, some (kd, src), some cb => some (.for t kd src cb)
      | _, _, _ => none
    | .Assign tgs e _ => match tgs with
      | [tg] => tgS n Γ tg e
      | _ => none
    | .AugAssign tg o e _ => augS n Γ tg o e
    | .Raise a b _ => some (raiseS n Γ a b)
    | .Try b hs oe fe _ => match hs, oe, fe with
      | h :: hs, [], [] => (mapO (cmpS n Γ) b).map fun cb => tryS Γ cb (h :: hs)
      | _, _, _ => none
    | _ => none
section
variable {X : Cx} {W : WX} {P : Pm} {Γ : Ctx} {Φ : Nat → Fn} {k : Nat}
def IhS (n : Nat) : Prop := ∀ {X : Cx} {W : WX} {P : Pm} {Γ : Ctx} {Φ : Nat → Fn} {k : Nat} (st : Stmt) (c : S), Ok X W P Γ Φ k → cmpS n Γ st = some c → PS X st (tS P W (evS Φ c))
theorem maps_snd {n : Nat} (ih : IhS n) (ok : Ok X W P Γ Φ k) : ∀ {ss : List Stmt} {cs : List S}, mapO (cmpS n Γ) ss = some cs → PSs X ss (tS P W (evSs Φ cs))
  | [], cs, h => by cases h; exact pss_nilD
  | s :: ss, cs, h => by
    unfold mapO at h
    split at h
    · rename_i b bs h1 h2
      cases h
      exact pss_consD (ih s b ok h1) (maps_snd ih ok h2)
    · cases h
theorem mapX {n : Nat} (ok : Ok X W P Γ Φ k) : ∀ {es : List Expr} {cs : List E}, es.all nst = true → mapO (cmpE n Γ false) es = some cs → SndX X P W Φ es cs :=
  fun {es cs} hn h P' hG => map_snd (cmp_snd n) (ok.pm hG) hn h
theorem lc_inv {n : Nat} {elt : Expr} {gens : List Comprehension} {scope : Scope} {pos : Pos} {c : E} (h : cmpE (n + 1) Γ false (.ListComp elt gens scope pos) = some c) :
    ∃ tg it ifs t kd src ifs' elt', gens = [⟨tg, it, ifs, 0⟩] ∧ c = .lc ((ownOf Γ.N scope).map (·.2)) t kd src ifs' elt' ∧ blkC Γ.N Γ.sc scope (ownOf Γ.N scope) = true ∧ ifs.length ≤ 1 ∧ isDisp it = false ∧
      tgtE n (Γ.blk scope) tg = some t ∧ srcE (cmpE n Γ false) Γ tg it = some (kd, src) ∧ mapO (cmpE n (Γ.blk scope) true) ifs = some ifs' ∧ cmpE n (Γ.blk scope) false elt = some elt' ∧ t.inn ((ownOf Γ.N scope).map (·.2)) = true := by
  unfold cmpE at h
  split at h
  all_goals first
    | (rename_i z; cases z; done)
    | (cases h; done)
    | skip
  rename_i elt' tg it ifs scope' pos' z
  cases z
  split at h
  · cases h
  rename_i hc
  simp only [Bool.or_eq_true, not_or, Bool.not_eq_true, Bool.not_eq_false', decide_eq_true_eq, Nat.not_lt] at hc
  split at h
  · rename_i t kd src ifs' elt' h1 h2 h3 h4
    split at h
    · rename_i hin
      cases h
      exact ⟨tg, it, ifs, t, kd, src, ifs', elt', rfl, rfl, hc.1.1, hc.1.2, hc.2, h1, h2, h3, h4, hin⟩
    · cases h
  · cases h
theorem swLc_of {env : PySem.Env} {elt : Expr} {gens : List Comprehension} {scope : Scope} {pos py : Pos} {y : Str} {l : Nat} (hk : isFun env.scope.kind = true) : swapsWith (.ListComp elt gens scope pos) (some (.Name y py)) l env = pure (swLc env.scope scope y py.line pos.line) := by
  have hb : env.blockKind = .function := by
    unfold Env.blockKind
    cases e : env.scope.kind <;> rw [e] at hk <;> first | rfl | cases hk
  unfold swapsWith swLc Env.kindOf
  simp only [hb, Expr.pos]
  show pure _ = pure _
  congr 1
theorem tgt_comp {e tg : Expr} {l : Nat} {env : PySem.Env} (h : notComp e = true) : swapsWith e (some tg) l env = pure false := swaps_plain h
theorem ps_asgLc {n : Nat} {x : Str} {p lp pos : Pos} {elt : Expr} {gens : List Comprehension} {scope : Scope} {t : T} {c : E} (ok : Ok X W P Γ Φ k) (hk : isFun Γ.sc.kind = true) (ht : tgtE n Γ (.Name x p) = some t) (hc : cmpE n Γ false (.ListComp elt gens scope lp) = some c) :
    PS X (.Assign [.Name x p] (.ListComp elt gens scope lp) pos) (tS P W (evS Φ (.asg t c))) := by
  have hk' : isFun X.env.scope.kind = true := by rw [ok.sc]; exact hk
  have sw := swLc_of (env := X.env) (elt := elt) (gens := gens) (scope := scope) (pos := lp) (py := p) (y := x) (l := pos.line) hk'
  cases hb : swLc X.env.scope scope x p.line lp.line with
  | false =>
    rw [hb] at sw
    exact ps_asgD sw rfl (tgt_snd ok n _ t ht) ((cmp_snd n false _ _ ok hc).val rfl).pe
  | true =>
    rw [hb] at sw
    cases n with
    | zero => cases hc
    | succ n =>
      obtain ⟨tg, it, ifs, t', kd, src, ifs', elt', rfl, rfl, b1, b2, b3, h1, h2, h3, h4, hin⟩ := lc_inv hc
      have hN : X.N.Nodup := by rw [ok.N]; exact ok.nd
      have bk : BlkOk X.N X.env.scope scope (ownOf Γ.N scope) := by rw [ok.N, ok.sc]; exact blkOk_by b1
      replace ht : (if Γ.asgn x then (ixOf Γ.N x).map fun i => T.name i (Γ.M.contains x) else none) = some t := ht
      split at ht
      rotate_left
      · cases ht
      obtain ⟨i, hi, rfl⟩ := Option.map_eq_some_iff.mp ht
      have hy : X.N[i]? = some x := by rw [ok.N]; exact ixOf_at hi
      have hyl : X.env.scope.names.lookup x = some .local := by
        unfold swLc at hb
        simp only [Bool.and_eq_true] at hb
        exact eq_of_beq hb.1.1
      have ih : Ih n := cmp_snd n
      refine (ps_setLc ok.calm hN hy hyl sw (src_snd ih ok h2) bk (g := xG P t') (tt := xB P fun ρ => evTs Φ ifs' ρ) (te := xV P fun ρ => rel (ev Φ elt' ρ))
        (fun s H C cl fp => ⟨fun pins s' σ H v u Q I r ⟨P', hP, z⟩ => (tgt_snd ((ok.blk scope s _ C cl fp).pm hP) n tg t' h1).run pins s' σ H v u Q I r z⟩)
        (fun s H C cl fp => ⟨fun pins s' σ H Q I ⟨P', hP, z⟩ => (ifs_snd ih ((ok.blk scope s _ C cl fp).pm hP) b2 h3).run pins s' σ H Q I z⟩)
        (fun s H C cl fp => ⟨fun pins s' σ H Q I ⟨P', hP, z⟩ => ((ih false elt elt' ((ok.blk scope s _ C cl fp).pm hP) h4).val rfl).v.run pins s' σ H Q I z⟩)
        (set_plain b3 _)).weak fun D σ H h => ?_
      obtain ⟨O, ρ, Z, a⟩ := asg_rd h
      exact lc_rd hin ⟨O, ρ, Z, a.imp fun s ρ1 O1 H1 R1 _ q v rv => gName_of (q v rv)⟩
theorem parE_snd {names : List Str} {ts vs : List Expr} {cs : List E} {kt k2 : Nat} {pt pt2 pos : Pos} {c : S} {n : Nat} (ok : Ok X W P Γ Φ k) (hk : isFun Γ.sc.kind = true) (hsw : swapK Γ.sc ts vs = some (some names)) (hm : mapO (cmpE n Γ false) vs = some cs) (h : parE Γ names ts vs cs = some c) :
    PS X (.Assign [.Tuple ts kt pt] (.Tuple vs k2 pt2) pos) (tS P W (evS Φ c)) := by
  unfold parE at h
  split at h
  · rename_i x px y py a b ca cb
    split at h
    · rename_i hc
      simp only [Bool.and_eq_true, decide_eq_true_eq, beq_iff_eq] at hc
      obtain ⟨⟨⟨⟨⟨rfl, n1⟩, n2⟩, ne⟩, lx⟩, ly⟩ := hc
      split at h
      · rename_i i j hi hj
        cases h
        exact ps_par2D ok hk hsw hi hj lx ly ne (mapX ok (by simp [n1, n2]) hm)
      · cases h
    · cases h
  · rename_i x px y py z pz a b c' ca cb cc
    split at h
    · rename_i hc
      simp only [Bool.and_eq_true, decide_eq_true_eq, beq_iff_eq] at hc
      obtain ⟨⟨⟨⟨⟨⟨⟨⟨⟨rfl, n1⟩, n2⟩, n3⟩, ne⟩, ne2⟩, ne3⟩, lx⟩, ly⟩, lz⟩ := hc
      split at h
      · rename_i i j l hi hj hl
        cases h
        exact ps_par3D ok hk hsw hi hj hl lx ly lz ne ne2 ne3 (mapX ok (by simp [n1, n2, n3]) hm)
      · cases h
    · cases h
  · cases h
theorem each_tup {ts : List Expr} {kt : Nat} {p : Pos} {env : PySem.Env} : (assignEach [.Tuple ts kt p] env).map (·.2) = [assign (.Tuple ts kt p) env] := rfl
end
end DL
set_option maxHeartbeats 2000000
/-! EX5: raise, and try with a word of the caught error. -/
namespace DL
open PySem PySem.Spec PyProof.Rows L2

theorem TX.len_mono : ∀ (t : TX) {n m : Nat}, n ≤ m → t.len n ≤ t.len m
  | .k _, _, _, _ => Nat.le_refl _
  | .arg, _, _, h => h
  | .cat x y, _, _, h => Nat.add_le_add (x.len_mono h) (y.len_mono h)
theorem okX_as {d : D} {G : Gx} {H : Hp} {v : V} (h : okX d = true) (r : Rep G H v d) : ∃ b : Str, AsT v b ∧ b.length ≤ 10000 := by
  cases d with
  | str s => exact ⟨s, .inl (str_rep r), of_decide_eq_true h⟩
  | int i =>
    have h' : i.natAbs.log2 < 100 := of_decide_eq_true h
    have z : i.natAbs.log2 < 1920 := by omega
    have z2 := PyProof.Rows.int_text_len_1921 z
    exact ⟨toString i, .inr ⟨i, int_rep r, z, rfl⟩, by omega⟩
  | _ => cases h
section
variable {X : Cx} {W : WX} {P : Pm} {Γ : Ctx} {Φ : Nat → Fn} {k : Nat}
theorem raise_end {H : Hp} {a dx C : Addr} {u : HO} {fs : List (Str × V)} (ha : H a = none) (hd : dx ≠ a) :
    upd (del (upd (upd (upd H a u) dx (exd dx fs)) a (exo a C (some dx))) a) dx (.xd fs) = upd H dx (.xd fs) := by
  funext b
  by_cases hb : b = dx
  · subst hb
    rw [upd_same, upd_same]
  · rw [upd_ne hb, upd_ne hb]
    by_cases hba : b = a
    · subst hba
      rw [del_same, ha]
    · rw [del_ne hba, upd_ne hba, upd_ne hb, upd_ne hba]
theorem ps_raiseD {c fl : Str} {e : Expr} {ce : E} {p pos pos' : Pos} (ok : Ok X W P Γ Φ k) (hg : Γ.gl c = true) (hx : Γ.xs.lookup c = some fl) (hn : nst e = true) (h : PE X e (tE P W Φ ce)) :
    PS X (.Raise (some (.Call (.Name c p) [e] [] pos)) none pos') (tS P W (evS Φ (.raise c ce))) := by
  obtain ⟨C, fI, fd, r, txt, g1, g2, T, iC, tI, F1, hb, hl⟩ := (ok.xs c fl hx).ex
  obtain ⟨gc, dbg, _⟩ := ok.glob hg
  have pm := pmk_oex (pos := pos) (p := p) (e := e) (es := []) T iC tI F1 (ok.room.mono ok.k1) hb .nil (fun _ _ _ _ _ _ _ z => False.elim z) gc g2 (pa_consN hn (tV_of h) pa_nil) dbg (starEach_nst hn _ _) rfl
  refine (ps_raise (pos := pos') ok.calm ok.tk pm).weak fun D σ H ⟨O, ρ, R, a⟩ => ?_
  refine ⟨O, ρ, R, ?_⟩
  have a2 : AftS P W O H ((rel (ev Φ ce ρ)).bind fun q => if okX q.1 then .exc c q.1 q.2 else .bad) D := a
  refine a2.bind.imp fun d ρ1 O1 H1 R1 x1 q v rv => ?_
  refine ⟨by show 1 ≤ 1000; decide, fun a ha => ?_⟩
  cases hk : okX d with
  | false => rw [hk] at q; exact q.elim
  | true =>
    rw [hk] at q
    obtain ⟨b, hb1, hb2⟩ := okX_as hk rv
    refine ⟨a, v, rfl, upd_same, ⟨b, hb1, Nat.le_trans (txt.len_mono hb2) hl⟩, fun dx hdx hne => ⟨rfl, dx, [(fl, v)], upd_same, ?_, ?_, ?_⟩⟩
    · rw [upd_ne hne, upd_same]
    · rw [upd_ne hne] at hdx; exact hdx
    · have hd0 : H1 dx = none := by rw [upd_ne hne] at hdx; exact hdx
      rw [raise_end ha hne]
      have sm : Same H1 (upd H1 dx (.xd [(fl, v)])) := fun b o z => by rw [upd_ne (ne_of_none z hd0)]; exact z
      exact q O1 σ _ _ _ (R1.same sm) (Ext.same sm) ⟨C, fl, dx, v, g1, rfl, rfl, upd_same, (Ext.same sm).rep rv⟩

/-! ### try -/
theorem run_W {pins : List (Addr × Obj)} {σ : L2.St} {H : Hp} {s : Shared} {Q : VK} {f : Addr} {p : Addr × Obj} {sp : Addr × Obj → Hp → VK → Prop} (F : FnW X.prog X.w X.K X.mg X.base f sp) (hr : L2H.RoomH 1 X.A) (hp : p ∈ X.pn)
    (I : Inv X pins σ H s) (h : sp p H Q) : wpAny (model X.prog X.w) X.A (call (.ref f) [.ref p.1]) (EP X pins σ Q) X.xe s := by
  have P1 := I.pin p (List.mem_append_left _ hp)
  have hpin : L2H.PinOk X.stack H s p := ⟨P1.1, P1.2.1, fun hm => (List.mem_cons.mp (I.stkSub p.1 hm)).elim P1.2.2.1 P1.2.2.2.1, P1.2.2.2.2⟩
  refine wpAny_call (codeAny_mono (F.go X.A X.stack s H Q p hr hpin I.env0 h) fun r s' hq => ?_)
  match r, hq with
  | .error e, hq => exact hq.elim
  | .ok (.ret u), hq => exact I.after hq
  | .ok .next, hq => exact hq.elim
  | .ok .brk, hq => exact hq.elim
  | .ok .cont, hq => exact hq.elim
theorem pe_callW {f : Addr} {nm n : Str} {i : Nat} {p : Addr × Obj} {q q1 q2 : Pos} {sp : Addr × Obj → Hp → VK → Prop} (F : FnW X.prog X.w X.K X.mg X.base f sp) (hr : L2H.RoomH 1 X.A) (hp : p ∈ X.pn) (hg : Gl X nm) (hm : X.mg nm = some (.ref f)) (hk : PySem.W.keepIn X.K (.ref f) = true)
    (hd : (nm == ("__debug__" : Str)) = false) (he : PE X (.Name n q1) (tVar i)) : PE X (.Call (.Name nm q) [.Name n q1] [] q2) (fun σ H Q => σ[i]? = some (some (.ref p.1)) ∧ sp p H Q) := by
  refine ⟨fun pins s σ H Q I ⟨h1, h2⟩ => wpAny_Call_Name_kw (ld_glob I hg hm ?_ hd)⟩
  refine PySem.W.callWith_K (h₀ := X.base) I.ok.mod.kin hk (thn ((pa_cons he pa_nil).run q2 pins s σ H (fun vs H1 => vs = [V.ref p.1] ∧ H1 = H) I ⟨_, h1, rfl, rfl⟩) fun us s1 ⟨vs, H1, I1, rv, z1, z2⟩ => ⟨I1.kIn, ?_⟩) rfl rfl
  subst z1 z2
  cases rv with
  | cons r rs =>
    cases rs
    cases r
    exact run_W F hr hp I1 h2

theorem wNm_eq {e : Expr} {x : Str} (h : wNm e = some x) : ∃ p, e = .Name x p := by
  cases e <;> first | (cases h; done) | skip
  cases h
  exact ⟨_, rfl⟩
theorem wArgs_eq {es : List Expr} {x : Str} (h : wArgs es = some x) : ∃ p, es = [.Name x p] := by
  match es, h with
  | [e], h =>
    obtain ⟨p, rfl⟩ := wNm_eq h
    exact ⟨p, rfl⟩
  | [], h => cases h
  | _ :: _ :: _, h => cases h
theorem wnil_of {α : Type} {l : List α} (h : isNil l = true) : l = [] := by
  cases l with
  | nil => rfl
  | cons _ _ => cases h
theorem wCall_eq {e : Expr} {f m : Str} (h : wCall e = some (f, m)) : ∃ q q1 q2, e = .Call (.Name f q) [.Name m q1] [] q2 := by
  cases e with
  | Call g es ks q2 =>
    replace h : (if isNil ks then match wNm g, wArgs es with
      | some a, some b => some (a, b)
      | _, _ => none else none) = some (f, m) := h
    split at h
    · rename_i hk
      split at h
      · rename_i a b h1 h2
        cases h
        obtain ⟨q, rfl⟩ := wNm_eq h1
        obtain ⟨q1, rfl⟩ := wArgs_eq h2
        rw [wnil_of hk]
        exact ⟨q, q1, q2, rfl⟩
      · cases h
    · cases h
  | _ => cases h
theorem wSuite_eq {b : List Stmt} {f m : Str} (h : wSuite b = some (f, m)) : ∃ q q1 q2 q3, b = [.Return (some (.Call (.Name f q) [.Name m q1] [] q2)) q3] := by
  match b, h with
  | [s], h =>
    replace h : wRet s = some (f, m) := h
    cases s with
    | Return oe q3 =>
      cases oe with
      | none => cases h
      | some e =>
        obtain ⟨q, q1, q2, rfl⟩ := wCall_eq h
        exact ⟨q, q1, q2, q3, rfl⟩
    | _ => cases h
  | [], h => cases h
  | _ :: _ :: _, h => cases h
theorem wordH_eq {h : ExceptHandler} {hs : List (Str × Wd)} {i : Nat} (e : wordH Γ h = some (hs, i)) : ∃ np n q q1 q2 q3 nm pos', h = .ExceptHandler (some (.Name "SetError" np)) (some n) [.Return (some (.Call (.Name nm q) [.Name n q1] [] q2)) q3] pos' ∧
    Γ.wd = some (nm, hs) ∧ ixOf Γ.N n = some i ∧ Γ.gl "SetError" = true ∧ Γ.gl nm = true ∧ Γ.sc.names.lookup n = some .local ∧ (n == ("__debug__" : Str)) = false ∧ (n == ("__classdict__" : Str)) = false := by
  match h, e with
  | .ExceptHandler (some x) (some n) b pos', e =>
    replace e : (match wNm x, wSuite b, Γ.wd, ixOf Γ.N n with
      | some c, some (f, m), some (nm, hs), some i => if decide (c = "SetError") && decide (f = nm) && decide (m = n) && Γ.gl c && Γ.gl nm && (Γ.sc.names.lookup n == some .local) && !(n == ("__debug__" : Str)) && !(n == ("__classdict__" : Str)) then some (hs, i) else none
      | _, _, _, _ => none) = some (hs, i) := e
    split at e
    · rename_i c f m nm hs' i' h1 h2 h3 h4
      split at e
      · rename_i hc
        cases e
        simp only [Bool.and_eq_true, Bool.not_eq_true', decide_eq_true_eq, beq_iff_eq] at hc
        obtain ⟨⟨⟨⟨⟨⟨⟨c1, c2⟩, c3⟩, c4⟩, c5⟩, c6⟩, c7⟩, c8⟩ := hc
        subst c1 c2 c3
        obtain ⟨np, rfl⟩ := wNm_eq h1
        obtain ⟨q, q1, q2, q3, rfl⟩ := wSuite_eq h2
        exact ⟨np, _, q, q1, q2, q3, _, pos', rfl, h3, h4, c4, c5, c6, c7, c8⟩
      · cases e
    · cases e
  | .ExceptHandler none _ _ _, e => cases e
  | .ExceptHandler (some _) none _ _, e => cases e

theorem Ok.tr (ok : Ok X W P Γ Φ k) {pn : List (Addr × Obj)} {xe : Value → Shared → Prop} {W' : WX} (tk : Takes (X.tr pn xe) W') (po : PassesOwn (model X.prog X.w) X.A X.env xe) : Ok (X.tr pn xe) W' P Γ Φ k :=
  ⟨ok.N, ok.nd, ok.sc, ok.fn, ok.calm, ok.gd, ok.room, ok.K, tk, po, ok.bs, ok.cs, ok.ds, fun i f e => ⟨(ok.fs i f e).at_⟩, ok.k1, ok.stk, ok.xs, ok.wd⟩
theorem ps_trywD {body : List Stmt} {cb : List S} {hs : List (Str × Wd)} {h : ExceptHandler} {i : Nat} {pos : Pos} (ok : Ok X W P Γ Φ k) (hw : wordH Γ h = some (hs, i))
    (hb : ∀ (W' : WX) (pn : List (Addr × Obj)) (xe : Value → Shared → Prop), Ok (X.tr pn xe) W' P Γ Φ k → PSs (X.tr pn xe) body (tS P W' (evSs Φ cb))) :
    PS X (.Try body [h] [] [] pos) (tS P W (evS Φ (.tryw cb hs i))) := by
  obtain ⟨np, n, q, q1, q2, q3, nm, pos', rfl, hwd, hi, gS, gn, hl, hd1, hd2⟩ := wordH_eq hw
  obtain ⟨sk, sf⟩ := ok.stk (by rw [hwd]; rfl)
  obtain ⟨⟨f, mf, kf, F, _⟩, CS, mS, hex⟩ := ok.wd nm hs hwd
  obtain ⟨gS1, gS2, _⟩ := ok.glob gS
  obtain ⟨gn1, gn2, _⟩ := ok.glob gn
  have hN : X.N[i]? = some n := by rw [ok.N]; exact ixOf_at hi
  have hln : X.env.kindOf n = some .local := by show X.env.scope.names.lookup n = _; rw [ok.sc]; exact hl
  have key := ps_try_as (pos := pos) (pos' := pos') (np := np) (X := X) (i := i) (c := .ref CS) (Wout := W) (tb := fun W' => tS P W' (evSs Φ cb))
    (ts := fun a cls d => fun D σ H => σ[i]? = some (some (.ref a)) ∧ ∃ O c C fl dd x v w, P.G.ca c = some (C, fl) ∧ cls = .ref C ∧ d = some dd ∧ H dd = some (.xd [(fl, v)]) ∧ Rep P.G (cut H O) v x ∧ wordD hs c x = some w ∧
      ∀ v' H', Same H H' → Rep P.G (cut H' O) v' w → D.rt v' H') (b₀ := .Return (some (.Call (.Name nm q) [.Name n q1] [] q2)) q3) (suite := []) sk sf (by rw [ok.N]; exact ok.nd) hN hln ⟨gS1, gS2, .inl mS⟩ ok.tk
    (fun W' pn xe tk po => hb W' pn xe (ok.tr tk po)) (fun a oe cls d pn hz hf => by
      refine pss_one ((ps_ret (pe_callW (X := X.suite a ((a, oe) :: pn)) (p := (a, oe)) (i := i) F (L2H.roomH_of (ok.room.mono ok.k1) |> fun r => ⟨r.dp, r.un⟩) List.mem_cons_self gn1 mf kf gn2 (pe_var hN (.inl hln) hd1 hd2))).weak fun D σ H z => ?_)
      obtain ⟨z0, O, c, C, fl, dd, x, v, w, z1, z2, z3, z4, z5, z6, z7⟩ := z
      subst z2 z3
      exact ⟨z0, O, c, C, fl, dd, x, v, w, z1, hz, hf, z4, z5, z6, z7⟩)
  refine key.weak fun D σ H ⟨O, ρ, R, a⟩ => ⟨O, ρ, R, ?_⟩
  replace a : AftS P W O H (wordR hs i (evSs Φ cb ρ)) D := a
  revert a
  cases evSs Φ cb ρ with
  | ok o => cases o <;> exact fun a => a
  | bad => exact fun a => a
  | exc c x ρ' =>
    intro a O' σ' H' cv d R' e' ex
    obtain ⟨C, fl, dd, v, x1, x2, x3, x4, x5⟩ := ex
    subst x2 x3
    refine ⟨true, hex c C fl x1, fun _ a0 ha0 => ?_, fun z => (Bool.noConfusion z)⟩
    replace a : AftS P W O H (match wordD hs c x with
      | some w => if i < ρ'.length then .ok (.rt (.val w) ρ') else .bad
      | none => .bad) D := a
    cases hw2 : wordD hs c x with
    | none => rw [hw2] at a; exact a.elim
    | some w =>
      rw [hw2] at a
      dsimp only at a
      split at a
      · rename_i hil
        have hil' : i < σ'.length := by have := R'.len; omega
        refine ⟨by rw [List.getElem?_set_self hil'], O', c, C, fl, dd, x, v, w, x1, rfl, rfl, x4, x5, hw2, fun v' H2 sm r2 => ?_⟩
        exact a O' σ' H2 v' (R'.same sm) (e'.trans (Ext.same sm)) r2
      · exact a.elim
end
end DL
namespace DL
open PySem L2
section
variable {X : Cx} {W : WX} {P : Pm} {Γ : Ctx} {Φ : Nat → Fn} {k : Nat}
theorem nil_of {α : Type} {l : List α} (h : isNil l = true) : l = [] := by
  cases l with
  | nil => rfl
  | cons _ _ => cases h
theorem exprS_snd {n : Nat} {e : Expr} {pos : Pos} {c : S} (ok : Ok X W P Γ Φ k) (h : exprS n Γ e = some c) : PS X (.Expr e pos) (tS P W (evS Φ c)) := by
  unfold exprS at h
  split at h
  · split at h
    · cases h; exact ps_docD
    · cases h
  · split at h
    · rename_i hn
      obtain ⟨c', h1, rfl⟩ := Option.map_eq_some_iff.mp h
      exact ps_expD hn ((cmp_snd n false e c' ok h1).val rfl).pe
    · cases h
theorem retS_snd {n : Nat} {e : Expr} {pos : Pos} {c : S} (ok : Ok X W P Γ Φ k) (h : retS n Γ e = some c) : PS X (.Return (some e) pos) (tS P W (evS Φ c)) := by
  unfold retS at h
  split at h
  · rename_i x p
    split at h
    · rename_i i h1
      cases h
      rcases name_snd (p := p) (P := P) (W := W) (Φ := Φ) ok h1 with ⟨j, e, q⟩ | ⟨d, e, q⟩
      · cases e; exact ps_retoD q
      · cases e
    · rename_i d h1
      cases h
      rcases name_snd (p := p) (P := P) (W := W) (Φ := Φ) ok h1 with ⟨j, e, q⟩ | ⟨d, e, q⟩
      · cases e
      · cases e; exact ps_retD q
    · cases h
  · obtain ⟨c', h1, rfl⟩ := Option.map_eq_some_iff.mp h
    exact ps_retD ((cmp_snd n false _ c' ok h1).val rfl).pe
theorem setiS_snd {n : Nat} {x : Str} {p p2 pos : Pos} {ix e : Expr} {c : S} (ok : Ok X W P Γ Φ k) (h : setiS n Γ x ix e = some c) : PS X (.Assign [.Subscript (.Name x p) ix p2] e pos) (tS P W (evS Φ c)) := by
  unfold setiS at h
  split at h
  · cases h
  rename_i hc
  rw [Bool.not_eq_true, Bool.not_eq_false'] at hc
  simp only [Bool.and_eq_true, Bool.not_eq_true'] at hc
  split at h
  · rename_i i ci ce h1 h2 h3
    cases h
    exact ps_setiD (by have := ok.un; omega) hc.1.1.1.2 hc.1.1.1.1 (nm_of ok hc.1.2 hc.2 hc.1.1.2 h1) ((cmp_snd n false e ce ok h3).val rfl).pe ((cmp_snd n false ix ci ok h2).val rfl).pe
  · cases h
theorem asgS_snd {n : Nat} {tg e : Expr} {pos : Pos} {c : S} (ok : Ok X W P Γ Φ k) (h : asgS n Γ tg e = some c) : PS X (.Assign [tg] e pos) (tS P W (evS Φ c)) := by
  unfold asgS at h
  split at h
  · rename_i hc
    rw [Bool.and_eq_true] at hc
    split at h
    · rename_i t c' h1 h2
      cases h
      exact ps_asgD (swaps_plain hc.2) hc.1 (tgt_snd ok n tg t h1) ((cmp_snd n false e c' ok h2).val rfl).pe
    · cases h
  · cases h
theorem nameS_snd {n : Nat} {x : Str} {p : Pos} {e : Expr} {pos : Pos} {c : S} (ok : Ok X W P Γ Φ k) (h : nameS n Γ x p e = some c) : PS X (.Assign [.Name x p] e pos) (tS P W (evS Φ c)) := by
  unfold nameS at h
  split at h
  · unfold lcS at h
    split at h
    · rename_i hk
      split at h
      · rename_i t c' h1 h2
        cases h
        exact ps_asgLc ok hk h1 h2
      · cases h
    · cases h
  · exact asgS_snd ok h
theorem tupleS_snd {n : Nat} {ts : List Expr} {kt : Nat} {pt : Pos} {e : Expr} {pos : Pos} {c : S} (ok : Ok X W P Γ Φ k) (h : tupleS n Γ ts kt pt e = some c) : PS X (.Assign [.Tuple ts kt pt] e pos) (tS P W (evS Φ c)) := by
  unfold tupleS at h
  split at h
  · unfold tupS at h
    split at h
    · rename_i hk
      split at h
      · rename_i hsw
        split at h
        · rename_i ps hps
          split at h
          · rename_i hn
            split at h
            · rename_i cs h1
              split at h
              · rename_i hl
                cases h
                exact ps_parN ok hk hsw hps hl.1 hl.2 (mapX ok hn h1)
              · cases h
            · cases h
          · cases h
        · split at h
          · rename_i t c' h1 h2
            cases h
            exact (ps_asg ((cmp_snd n false _ c' ok h2).val rfl).pe (tgt_snd ok n _ t h1) rfl (swap_of (by rw [ok.sc]; exact hk) (by rw [ok.sc]; exact hsw)) rfl).weak fun D σ H h => asg_rd h
          · cases h
      · rename_i names hsw
        split at h
        · rename_i cs h1
          exact parE_snd ok hk hsw h1 h
        · cases h
      · cases h
    · cases h
  · exact asgS_snd ok h
theorem tgS_snd {n : Nat} {tg e : Expr} {pos : Pos} {c : S} (ok : Ok X W P Γ Φ k) (h : tgS n Γ tg e = some c) : PS X (.Assign [tg] e pos) (tS P W (evS Φ c)) := by
  unfold tgS at h
  split at h
  · exact nameS_snd ok h
  · exact tupleS_snd ok h
  · unfold subS at h
    split at h
    · exact setiS_snd ok h
    · cases h
  · cases h
theorem Ok.nox (ok : Ok X W P Γ Φ k) : Ok X.nox W0 P Γ Φ k :=
  ⟨ok.N, ok.nd, ok.sc, ok.fn, ok.calm, ok.gd, ok.room, ok.K, takes0, PassesOwn.never, ok.bs, ok.cs, ok.ds, fun i f e => ⟨(ok.fs i f e).at_⟩, ok.k1, ok.stk, ok.xs, ok.wd⟩
theorem tryn_rd {W' : WX} {c : List S} {D : Ends} {σ : St} {H : Hp} (h : tS P W (evS Φ (.tryn c)) D σ H) : tS P W' (evSs Φ c) D σ H := by
  obtain ⟨O, ρ, Z, a⟩ := h
  refine ⟨O, ρ, Z, ?_⟩
  replace a : AftS P W O H (noExc (evSs Φ c ρ)) D := a
  revert a
  cases evSs Φ c ρ with
  | ok o => cases o <;> exact fun a => a
  | exc _ _ _ => exact fun a => a.elim
  | bad => exact fun a => a
theorem raiseC_snd {n : Nat} {e : Expr} {pos : Pos} {c : S} (ok : Ok X W P Γ Φ k) (h : raiseC n Γ e = some c) : PS X (.Raise (some e) none pos) (tS P W (evS Φ c)) := by
  cases e with
  | Call f es ks p =>
    replace h : (if isNil ks then raiseE n Γ f es else none) = some c := h
    split at h
    · rename_i hk
      rw [nil_of hk]
      unfold raiseE at h
      split at h
      · rename_i x e h1
        obtain ⟨q, rfl⟩ := wNm_eq h1
        split at h
        · rename_i hc
          rw [Bool.and_eq_true] at hc
          split at h
          · rename_i fl ce h2 h3
            cases h
            exact ps_raiseD ok hc.1 h2 hc.2 ((cmp_snd n false e ce ok h3).val rfl).pe
          · cases h
        · cases h
      · cases h
    · cases h
  | _ => cases h
theorem raiseS_snd {n : Nat} {a b : Option Expr} {p : Pos} (ok : Ok X W P Γ Φ k) : PS X (.Raise a b p) (tS P W (evS Φ (raiseS n Γ a b))) := by
  have nev : PS X (.Raise a b p) (tS P W (evS Φ (.raise "" (.lit .non)))) := ps_never.weak fun D σ H ⟨O, ρ, Z, a⟩ => a
  cases a with
  | none => exact nev
  | some e =>
    cases b with
    | some _ => exact nev
    | none =>
      show PS X _ (tS P W (evS Φ ((raiseC n Γ e).getD (.raise "" (.lit .non)))))
      cases h1 : raiseC n Γ e with
      | none => exact nev
      | some c => exact raiseC_snd ok h1
theorem tryS_snd {b : List Stmt} {h0 : ExceptHandler} {hs : List ExceptHandler} {cb : List S} {p : Pos} (ok : Ok X W P Γ Φ k) (thru : PS X (.Try b (h0 :: hs) [] [] p) (tS P W (evS Φ (.tryn cb))))
    (hb : ∀ (W' : WX) (pn : List (Addr × Obj)) (xe : Value → Shared → Prop), Ok (X.tr pn xe) W' P Γ Φ k → PSs (X.tr pn xe) b (tS P W' (evSs Φ cb))) : PS X (.Try b (h0 :: hs) [] [] p) (tS P W (evS Φ (tryS Γ cb (h0 :: hs)))) := by
  cases hs with
  | cons _ _ => exact thru
  | nil =>
    cases hw : wordH Γ h0 with
    | none =>
      have e : tryS Γ cb [h0] = .tryn cb := by
        show (match wordH Γ h0 with
          | some w => S.tryw cb w.1 w.2
          | none => .tryn cb) = _
        rw [hw]
      rw [e]; exact thru
    | some w =>
      have e : tryS Γ cb [h0] = .tryw cb w.1 w.2 := by
        show (match wordH Γ h0 with
          | some w => S.tryw cb w.1 w.2
          | none => .tryn cb) = _
        rw [hw]
      rw [e]
      exact ps_trywD ok hw hb
theorem cmpS_snd : ∀ n, IhS n
  | 0 => fun _ _ _ h => by cases h
  | n + 1 => fun st c ok h => by
    have ih : Ih n := cmp_snd n
    have ihs : IhS n := cmpS_snd n
    unfold cmpS at h
    split at h
    · cases h
      exact ps_never.weak fun D σ H ⟨O, ρ, Z, a⟩ => a
    cases st with
    | Expr e p => exact exprS_snd ok h
    | Pass p => cases h; exact ps_passD
    | Break p => cases h; exact ps_brkD
    | Continue p => cases h; exact ps_cntD
    | Return oe p =>
      cases oe with
      | none => cases h; exact ps_retnD
      | some e => exact retS_snd ok h
    | If t a b p =>
      replace h : (match cmpE n _ true t, mapO (cmpS n _) a, mapO (cmpS n _) b with
        | some ct, some ca, some cb => some (S.ite ct ca cb)
        | _, _, _ => none) = some c := h
      split at h
      · rename_i ct ca cb h1 h2 h3
        cases h
        exact ps_iteD ((ih true t ct ok h1).tst rfl) (maps_snd ihs ok h2) (maps_snd ihs ok h3)
      · cases h
    | While t b oe p =>
      replace h : (if isNil oe then match cmpE n _ true t, mapO (cmpS n _) b with
        | some ct, some cb => some (S.whl ct cb)
        | _, _ => none else none) = some c := h
      split at h
      · rename_i hn
        cases nil_of hn
        split at h
        · rename_i ct cb h1 h2
          cases h
          exact ps_whlD ok ((ih true t ct ok h1).tst rfl) (maps_snd ihs ok h2)
        · cases h
      · cases h
    | For tg it b oe p =>
      replace h : (if isDisp it || !isNil oe then none else match tgtE n _ tg, srcE (cmpE n _ false) _ tg it, mapO (cmpS n _) b with
        | some t, some (kd, src), some cb => some (S.for t kd src cb)
        | _, _, _ => none) = some c := h
      split at h
      · cases h
      rename_i hd
      simp only [Bool.or_eq_true, not_or, Bool.not_eq_true, Bool.not_eq_false'] at hd
      cases nil_of hd.2
      split at h
      · rename_i t kd src cb h1 h2 h3
        cases h
        exact ps_forD ok (src_snd ih ok h2) hd.1 (tgt_snd ok n tg t h1) (maps_snd ihs ok h3)
      · cases h
    | Assign tgs e p =>
      match tgs, h with
      | [tg], h => exact tgS_snd ok h
      | [], h => cases h
      | _ :: _ :: _, h => cases h
    | AugAssign tg o e p =>
      replace h : augS n _ tg o e = some c := h
      unfold augS at h
      split at h
      · split at h
        · rename_i ha
          split at h
          · rename_i i c' h1 h2
            cases h
            exact ps_augD ok ha h1 ((ih false e c' ok h2).val rfl).pe
          · cases h
        · cases h
      · cases h
    | Try b hs oe fe p =>
      match hs, oe, fe, h with
      | h0 :: hs, [], [], h =>
        obtain ⟨cb, h1, e1⟩ := Option.map_eq_some_iff.mp h
        subst e1
        exact tryS_snd ok ((ps_try_thru0 (maps_snd ihs ok.nox h1)).weak fun D σ H h => tryn_rd h) fun W' pn xe ok' => maps_snd ihs ok' h1
      | [], _, _, h => cases h
      | _ :: _, _ :: _, _, h => cases h
      | _ :: _, [], _ :: _, h => cases h
    | Raise a b p =>
      cases h
      exact raiseS_snd ok
    | _ => cases h
end
end DL
namespace DL
open PySem L2
section
variable {G : Gx} {O O' : List Addr} {H H' : Hp}
/-! ## a def by its codes -/
theorem ios_at : ∀ {m : List Bool} {vs : List V} {b i : Nat} {a : Addr}, (i, a) ∈ iosOf m vs b → b ≤ i ∧ vs[i - b]? = some (.ref a)
  | [], _, _, _, _, h => by simp [iosOf] at h
  | true :: m, [], _, _, _, h => by simp [iosOf] at h
  | false :: m, [], _, _, _, h => by simp [iosOf] at h
  | false :: m, v :: vs, b, i, a, h => by
    obtain ⟨h1, h2⟩ := ios_at (m := m) (vs := vs) (b := b + 1) h
    refine ⟨by omega, ?_⟩
    rw [show i - b = (i - (b + 1)) + 1 by omega]
    simpa using h2
  | true :: m, v :: vs, b, i, a, h => by
    cases v with
    | ref c =>
      replace h : (i, a) ∈ (b, c) :: iosOf m vs (b + 1) := h
      rcases List.mem_cons.mp h with h | h
      · cases h
        exact ⟨Nat.le_refl _, by simp⟩
      · obtain ⟨h1, h2⟩ := ios_at (m := m) (vs := vs) (b := b + 1) h
        refine ⟨by omega, ?_⟩
        rw [show i - b = (i - (b + 1)) + 1 by omega]
        simpa using h2
    | _ => simp [iosOf] at h
theorem entry_len : ∀ {m : List Bool} {ds : List D}, (entry m ds).length = ds.length
  | _, [] => by simp [entry]
  | m, d :: ds => by simp [entry, entry_len]
theorem entry_at : ∀ {m : List Bool} {vs : List V} {ds : List D} {b i : Nat} {s : Slot}, ArgsOk G O H m vs ds → (entry m ds)[i]? = some s →
    ∃ v d, vs[i]? = some v ∧ ((s = .val d ∧ Rep G (cut H O) v d) ∨ (s = .io d ∧ ∃ a, v = .ref a ∧ (i + b, a) ∈ iosOf m vs b ∧ OwnAt G H O a d))
  | _, _, _, b, i, s, .nil, h => by simp [entry] at h
  | _, _, _, b, 0, s, .val (v := v) (d := d) r _, h => by
    simp [entry] at h
    subst h
    exact ⟨v, d, rfl, .inl ⟨rfl, r⟩⟩
  | _, _, _, b, 0, s, .io (a := a) (d := d) h1 h2 _, h => by
    simp [entry] at h
    subst h
    exact ⟨.ref a, d, rfl, .inr ⟨rfl, a, rfl, by simp [iosOf], h2⟩⟩
  | _, _, _, b, i + 1, s, .val _ rs, h => by
    obtain ⟨v, d, h1, h2⟩ := entry_at (b := b + 1) (i := i) rs (by simpa [entry] using h)
    refine ⟨v, d, by simpa using h1, h2.imp id fun ⟨q1, a, q2, q3, q4⟩ => ⟨q1, a, q2, ?_, q4⟩⟩
    rw [show i + 1 + b = i + (b + 1) by omega]
    exact q3
  | _, _, _, b, i + 1, s, .io _ _ rs, h => by
    obtain ⟨v, d, h1, h2⟩ := entry_at (b := b + 1) (i := i) rs (by simpa [entry] using h)
    refine ⟨v, d, by simpa using h1, h2.imp id fun ⟨q1, a, q2, q3, q4⟩ => ⟨q1, a, q2, ?_, q4⟩⟩
    rw [show i + 1 + b = i + (b + 1) by omega]
    exact List.mem_cons_of_mem _ q3
theorem ios_in : ∀ {m : List Bool} {vs : List V} {ds : List D} {b : Nat}, ArgsOk G O H m vs ds → ∀ p ∈ iosOf m vs b, p.2 ∈ O
  | _, _, _, b, .nil, p, h => by simp [iosOf] at h
  | _, _, _, b, .val _ rs, p, h => ios_in (b := b + 1) rs p h
  | _, _, _, b, .io h1 _ rs, p, h => by
    rcases List.mem_cons.mp h with rfl | h
    · exact h1
    · exact ios_in (b := b + 1) rs p h
theorem out_ok {Own : Addr → D → Prop} : ∀ {m : List Bool} {vs : List V} {ds : List D} {ρ : Sts} {cs : List D} {b : Nat}, ArgsOk G O H m vs ds → outIos m ρ = some cs → (∀ (i : Nat) (d : D), ρ[i]? = some (Slot.io d) → ∃ a : Addr, vs[i]? = some (V.ref a) ∧ Own a d) → Paired Own ((iosOf m vs b).map (·.2)) cs
  | _, _, _, ρ, cs, b, .nil, h, _ => by
    cases h
    exact .nil
  | _, _, _, ρ, cs, b, .val _ rs, h, k => by
    cases ρ with
    | nil => simp [outIos] at h
    | cons s ρ => exact out_ok (b := b + 1) rs (by simpa [outIos] using h) fun i d e => by simpa using k (i + 1) d (by simpa using e)
  | _, _, _, ρ, cs, b, .io (a := a) (m := m) (vs := vs) _ _ rs, h, k => by
    cases ρ with
    | nil => simp [outIos] at h
    | cons s ρ =>
      cases s with
      | io d =>
        replace h : (outIos m ρ).map (d :: ·) = some cs := h
        obtain ⟨cs', h1, rfl⟩ := Option.map_eq_some_iff.mp h
        obtain ⟨a', e, o⟩ := k 0 d rfl
        cases e
        exact .cons o (out_ok (b := b + 1) rs h1 fun i d e => by simpa using k (i + 1) d (by simpa using e))
      | val _ => simp [outIos] at h
      | own _ => simp [outIos] at h
      | emp => simp [outIos] at h
theorem pairwise_snd {l : List (Nat × Addr)} (h : (l.map (·.2)).Nodup) : ∀ p ∈ l, ∀ q ∈ l, p.2 = q.2 → p = q := by
  induction l with
  | nil => intro p hp; simp at hp
  | cons x l ih =>
    have h := List.nodup_cons.mp (show (x.2 :: l.map (·.2)).Nodup from h)
    intro p hp q hq e
    rcases List.mem_cons.mp hp with hp1 | hp1
    · rcases List.mem_cons.mp hq with hq1 | hq1
      · rw [hp1, hq1]
      · exact absurd (List.mem_map.mpr ⟨q, hq1, by rw [← e, hp1]⟩) h.1
    · rcases List.mem_cons.mp hq with hq1 | hq1
      · exact absurd (List.mem_map.mpr ⟨p, hp1, by rw [e, hq1]⟩) h.1
      · exact ih h.2 p hp1 q hq1 e
def entryPm (G : Gx) (m : List Bool) (vs : List V) (O : List Addr) (H : Hp) : Pm := ⟨G, H, iosOf m vs 0, O⟩
theorem Rel.entry {m : List Bool} {vs : List V} {ds : List D} {N : List Str} (h : ArgsOk G O H m vs ds) (nd : ((iosOf m vs 0).map (·.2)).Nodup) (od : ∀ a ∈ O, ∃ o, H a = some o ∧ Mut (some o)) (hl : m.length ≤ N.length) :
    Rel (entryPm G m vs O H) O (entry m ds ++ List.replicate (N.length - m.length) .emp) (L2.start N vs) H := by
  obtain ⟨l1, l2⟩ := h.len
  have el : (DL.entry m ds).length = vs.length := by rw [entry_len, l1, l2]
  have at_ : ∀ {i : Nat} {s : Slot}, s ≠ .emp → (DL.entry m ds ++ List.replicate (N.length - m.length) .emp)[i]? = some s → (DL.entry m ds)[i]? = some s := fun {i s} hs e => by
    by_cases hi : i < (DL.entry m ds).length
    · rw [List.getElem?_append_left hi] at e; exact e
    · rw [List.getElem?_append_right (by omega)] at e
      rw [List.getElem?_replicate] at e
      split at e
      · cases e; exact absurd rfl hs
      · cases e
  have st : ∀ {i : Nat} {v : V}, vs[i]? = some v → (L2.start N vs)[i]? = some (some v) := fun {i v} e => by
    have hi : i < vs.length := (List.getElem?_eq_some_iff.mp e).1
    unfold L2.start
    rw [List.getElem?_append_left (by simpa using hi), List.getElem?_map, e]; rfl
  refine ⟨?_, fun i d e => ?_, fun i d e => ?_, fun i d e => ?_, fun i j a s t e1 e2 _ _ => ?_, pairwise_snd nd, fun b o _ e => e, fun a h => .inl h, od, fun a h => h, fun a h' => ?_⟩
  · unfold L2.start
    simp [el, l1]
  · obtain ⟨v, d', h1, h2⟩ := entry_at (b := 0) h (at_ (by simp) e)
    rcases h2 with ⟨h2, h3⟩ | ⟨h2, _⟩
    · cases h2; exact ⟨v, st h1, h3⟩
    · cases h2
  · obtain ⟨v, d', h1, h2⟩ := entry_at (b := 0) h (at_ (by simp) e)
    rcases h2 with ⟨h2, h3⟩ | ⟨h2, _⟩ <;> cases h2
  · obtain ⟨v, d', h1, h2⟩ := entry_at (b := 0) h (at_ (by simp) e)
    rcases h2 with ⟨h2, h3⟩ | ⟨h2, a, rfl, h3, h4⟩
    · cases h2
    · cases h2; exact ⟨a, st h1, h3, h4⟩
  · obtain ⟨v, d', h1, h2⟩ := entry_at (b := 0) h (at_ (by simp) e1)
    rcases h2 with ⟨h2, h3⟩ | ⟨h2, _⟩ <;> cases h2
  · obtain ⟨p, hp, rfl⟩ := List.mem_map.mp h'
    exact ios_in h p hp
/-- what stands in the text about a def -/
structure CallEnv (P : Program) (w : World) (K : PySem.W.Frag) (mg : Str → Option Value) (base : Heap) (G : Gx) (Γ : Ctx) (Φ : Nat → Fn) (k : Nat) : Prop where
  gk : G.K = K
  bs : ∀ x, Γ.bs.contains x = true → mg x = none
  cs : ∀ x d, Γ.cs.lookup x = some d → ∃ u v, mg x = some u ∧ RelV v u ∧ ∀ H, Rep G H v d
  ds : ∀ x kvs, Γ.ds.lookup x = some kvs → ∃ a, mg x = some (.ref a) ∧ WD K w a kvs
  fs : ∀ (i : Nat) (g : FnS), Γ.fs[i]? = some g → ∃ a, mg g.name = some (.ref a) ∧ PySem.W.keepIn K (.ref a) = true ∧ G.fa g.name = some a ∧ FnG P w K mg base k a g.mask.length (spF G g.mask (Φ i))
  xs : ∀ c fl, Γ.xs.lookup c = some fl → RaiseAt P w K mg base G c fl
  wd : ∀ nm hs, Γ.wd = some (nm, hs) → WordAt P w K mg base G nm hs
theorem ret_ok {m : List Bool} {vs : List V} {ds : List D} {ρ : Sts} {σ : St} {cs : List D} {v : V} {s : Slot} {ro : Bool} (h : ArgsOk G O H m vs ds) (R : Rel (entryPm G m vs O H) O' ρ σ H') (r : RepR (entryPm G m vs O H) O' ρ σ H' v s) (ho : outIos m ρ = some cs) :
    Frame ((iosOf m vs 0).map (·.2)) H H' ∧ Ret G O H H' ((iosOf m vs 0).map (·.2)) cs v (if ro then s else .val s.d) := by
  refine ⟨fun b o h1 h2 => R.fr b o h1 h2, ?_⟩
  have cutLe' : ∀ {O2 O1 : List Addr}, (∀ a ∈ O2, a ∈ O1) → ∀ b o, cut H' O1 b = some o → cut H' O2 b = some o := fun {O2 O1} hO b o e => by
    obtain ⟨h1, h2⟩ := cut_some.mp e
    exact cut_some.mpr ⟨fun z => h1 (hO b z), h2⟩
  have cutLe : ∀ {O1 : List Addr}, (∀ a ∈ O, a ∈ O1) → ∀ b o, cut H' O1 b = some o → cut H' O b = some o := fun {O1} hO => cutLe' hO
  -- what was lent
  have lent : ∀ {O1 O2 : List Addr} {ρ : Sts} {σ : St}, Rel (entryPm G m vs O H) O1 ρ σ H' → outIos m ρ = some cs → (∀ b o, cut H' O1 b = some o → cut H' O2 b = some o) → Paired (fun a c => OwnAt G H' O2 a c) ((iosOf m vs 0).map (·.2)) cs := fun {O1 O2 ρ σ} R1 ho k => out_ok h ho fun i d e => by
    obtain ⟨a, h1, h2, h3⟩ := R1.io i d e
    obtain ⟨_, h4⟩ := ios_at h2
    exact ⟨a, by simpa using h4, h3.mono (fun _ q => q) k⟩
  cases s with
  | val d =>
    have e : (if ro = true then Slot.val d else .val (Slot.val d).d) = .val d := by cases ro <;> rfl
    rw [e]
    exact ⟨Rep.mono (cutLe R.exs) r, lent R ho (cutLe R.exs)⟩
  | own d =>
    cases ro with
    | true =>
      rw [if_pos rfl]
      obtain ⟨a, rfl, h1, h2, h3, h4⟩ := r
      have k : ∀ b o, cut H' O' b = some o → cut H' (a :: O) b = some o := cutLe' (fun b z => by
        rcases List.mem_cons.mp z with rfl | z
        · exact h1
        · exact R.exs b z)
      exact ⟨a, rfl, (R.ofr a h1).resolve_left h2, h4.mono (fun _ q => q) k, lent R ho k⟩
    | false =>
      rw [if_neg Bool.false_ne_true]
      obtain ⟨O2, R2, x2, r2⟩ := RepR.rel R r
      exact ⟨Rep.mono (cutLe R2.exs) r2, lent R2 ho (cutLe R2.exs)⟩
  | emp => exact r.elim
  | io _ => exact r.elim
/-- THE RULE: a def keeps what its codes promise -/
theorem fng_snd {P : Program} {w : World} {K : PySem.W.Frag} {mg : Str → Option Value} {base : Heap} {x qual : Str} {st : Stmt} {f : Addr} {fd : FuncData} {ps : List Str} {k : Nat} {Γ : Ctx} {Φ : Nat → Fn} {n : Nat} {d : Def}
    (F : Fun K x qual st f fd) (S : FnScope Γ.N ps (defScope st)) (hb : Binds K fd ps []) (hsc : Γ.sc = defScope st) (hm : d.m.length = ps.length) (hn : d.n = Γ.N.length) (hc : mapO (cmpS n Γ) (defBody st) = some d.body) (C : CallEnv P w K mg base G Γ Φ k) (hk1 : 1 ≤ k) :
    FnG P w K mg base (k + 1) f ps.length (spF G d.m (runD Φ d)) := by
  refine fng_of F S hb (fun vs H Q E ⟨O, ds, h, _⟩ => by rw [h.len.1]; exact hm) fun cdv A outer s H vs Q E hg room ⟨O, ds, h, nd, od, z⟩ => ?_
  have tk : Takes (cxOf (L2.CX P w) P w K mg base Γ.N qual (defScope st) f cdv A outer s H E) (fun cls d _ H => E cls d H) := takes_of rfl rfl rfl rfl
  have po := passes_of (X := cxOf (L2.CX P w) P w K mg base Γ.N qual (defScope st) f cdv A outer s H E) rfl
  have ok : Ok (cxOf (L2.CX P w) P w K mg base Γ.N qual (defScope st) f cdv A outer s H E) (fun cls d _ H => E cls d H) (entryPm G d.m vs O H) Γ Φ k :=
    ⟨rfl, S.nd, hsc.symm, fun _ _ => rfl, rfl, hg, room, C.gk, tk, po, C.bs, C.cs, C.ds, fun i g e => ⟨C.fs i g e⟩, hk1, fun _ => ⟨rfl, rfl⟩, C.xs, C.wd⟩
  refine ⟨_, maps_snd (cmpS_snd n) ok hc, ?_⟩
  have hl : d.m.length ≤ Γ.N.length := by
    rw [hm]
    have := congrArg List.length S.pre
    rw [List.length_take] at this
    omega
  have R := Rel.entry (N := Γ.N) h nd od hl
  refine ⟨O, _, R, ?_⟩
  have hlen : ds.length = d.m.length := h.len.2
  unfold runD at z
  rw [if_pos hlen, hn] at z
  revert z
  cases evSs Φ d.body (DL.entry d.m ds ++ List.replicate (Γ.N.length - d.m.length) .emp) with
  | bad => exact fun z => z
  | exc c x ρ =>
    intro z O' σ' H' cv dd R' e' ex
    dsimp only at z
    cases ho : outIos d.m ρ with
    | none => rw [ho] at z; exact z.elim
    | some cs =>
      rw [ho] at z
      have cutLe : ∀ b o, cut H' O' b = some o → cut H' O b = some o := fun b o e => by
        obtain ⟨h1, h2⟩ := cut_some.mp e
        exact cut_some.mpr ⟨fun z => h1 (R'.exs b z), h2⟩
      refine z cv dd H' (fun b o h1 h2 => R'.fr b o h1 h2) (out_ok h ho fun i d e => ?_) ?_
      · obtain ⟨a, h1, h2, h3⟩ := R'.io i d e
        obtain ⟨_, h4⟩ := ios_at h2
        exact ⟨a, by simpa using h4, h3.mono (fun _ q => q) cutLe⟩
      · obtain ⟨C', fl, dd', v, h1, h2, h3, h4, h5⟩ := ex
        exact ⟨C', fl, dd', v, h1, h2, h3, h4, h5.mono cutLe⟩
  | ok o =>
    have fin : ∀ {s : Slot} {ρ : Sts} {O' : List Addr} {σ' : St} {H' : Hp} {v : V}, (match outR d.ro d.m s ρ with
      | .ok (s, cs) => ∀ v H', Frame ((iosOf d.m vs 0).map (·.2)) H H' → Ret G O H H' ((iosOf d.m vs 0).map (·.2)) cs v s → Q v H'
      | .exc c x cs => ∀ cv dd H', Frame ((iosOf d.m vs 0).map (·.2)) H H' → Paired (fun a c => OwnAt G H' O a c) ((iosOf d.m vs 0).map (·.2)) cs → ExcAt G O H' c x cv dd → E cv dd H'
      | .bad => False) → Rel (entryPm G d.m vs O H) O' ρ σ' H' → RepR (entryPm G d.m vs O H) O' ρ σ' H' v s → Q v H' := fun {s ρ O' σ' H' v} z R' r => by
      unfold outR at z
      cases ho : outIos d.m ρ with
      | none => rw [ho] at z; exact z.elim
      | some cs =>
        rw [ho] at z
        obtain ⟨q1, q2⟩ := ret_ok (ro := d.ro) h R' r ho
        exact z v H' q1 q2
    cases o with
    | nx ρ => exact fun z O' σ' H' R' _ => fin (s := .val .non) (v := .non) z R' .non
    | rt s ρ => exact fun z O' σ' H' v R' _ r => fin z R' r
    | bk ρ => exact fun z => z.elim
    | ct ρ => exact fun z => z.elim
end
/-! ## the whole text -/
abbrev Tab := List (FnS × Def)
def phi (tab : Tab) : Nat → Nat → Fn
  | 0, _ => fun _ => .bad
  | k + 1, j => match tab[j]? with
    | some (_, d) => runD (phi tab k) d
    | none => fun _ => .bad
end DL
namespace DL
open PySem PySem.Spec PyProof.Rows L2
/-! ## the law's own call -/
/-- the script alone is tracked, and only where the text has not written it -/
def scHp (K : PySem.W.Frag) (a : Addr) (o : Obj) (ns : List Int) : Hp := fun b => if b = a ∧ K.lookup a = none then some (.frz o (.lst (ns.map V.int))) else none
theorem scHp_some {K : PySem.W.Frag} {a b : Addr} {o : Obj} {ns : List Int} {u : HO} (h : scHp K a o ns b = some u) : b = a ∧ K.lookup a = none ∧ u = .frz o (.lst (ns.map V.int)) := by
  unfold scHp at h
  split at h
  · rename_i c; exact ⟨c.1, c.2, (Option.some.inj h).symm⟩
  · cases h
theorem sc_vals : ∀ {vs : List Value} {ns : List Int}, IntsAre vs ns → Vals (ns.map V.int) vs
  | _, _, .nil => .nil
  | _, _, .cons n t h => .cons ⟨t, rfl⟩ (sc_vals h)
theorem reps_ns {G : Gx} {H : Hp} : ∀ ns : List Int, Reps G H (ns.map V.int) (ns.map D.int)
  | [] => .nil
  | n :: r => .cons (.int n) (reps_ns r)
theorem law_g {P : Program} {w : World} {K : PySem.W.Frag} {mg mb : Str → Option Value} {k : Nat} {f a : Addr} {G : Gx} {F : Fn} {t : Shared} {vs : List Value} {ns : List Int}
    (hK : G.K = K) (inK : K.In t.heap) (gn : t.heap.Ns mainGlobals mg) (bn : t.heap.Ns builtinsNs mb) (bb : ∀ y : Str, y ≠ "__name__" → mb y = bootBuiltins y) (nol : t.heap.NoLimit) (nog : t.gens = #[])
    (scr : t.heap.get? a = some { cls := .type "list", data := .seq vs.toArray }) (ii : IntsAre vs ns) (small : ns.length ≤ sizeLine) (room : Room k callerA)
    (prom : ∀ base : Heap, K.In base → base.Ns mainGlobals mg → FnG P w K mg base k f 1 (spF G [false] F)) (ans : F [.rol (ns.map .int)] = .ok (.val (.bl true), [])) :
    codeAny (model P w) callerA (.call (.ref f) ⟨[.ref a], []⟩) (fun r t' => r = .ok (.ret (.bool true)) ∧ OldK t.heap t'.heap ∧ t'.os = t.os ∧ AllBare t'.gens) t := by
  have rv := sc_vals ii
  have lv := ii.length
  obtain ⟨H, eH⟩ : ∃ H, H = scHp K a { cls := .type "list", data := .seq vs.toArray } ns := ⟨_, rfl⟩
  have only : ∀ {b : Addr} {u : HO}, H b = some u → b = a ∧ K.lookup a = none ∧ u = .frz { cls := .type "list", data := .seq vs.toArray } (.lst (ns.map V.int)) := fun {b u} e => scHp_some (eH ▸ e)
  have stays : ∀ {b : Addr} {o : Obj}, t.heap.get? b = some o → (b = a → K.lookup a ≠ none) → (hidT t.heap H).get? b = some o := fun {b o} e hb => hidT_get e (by
    cases q : H b with
    | none => rfl
    | some u =>
      obtain ⟨h1, h2, _⟩ := only q
      exact absurd h2 (hb h1))
  have nsOf : ∀ {b : Addr} {m : Str → Option Value}, t.heap.Ns b m → (hidT t.heap H).Ns b m := fun {b m} ⟨o, es, ep, e, d, r⟩ => ⟨o, es, ep, stays e (fun hb => by
    subst hb
    rw [scr] at e
    cases e
    cases d), d, r⟩
  have inB : K.In (hidT t.heap H) := fun b o e => stays (inK b o e) fun hb z => by
    subst hb
    rw [e] at z; cases z
  have md : Mod K mg (hidT t.heap H) := ⟨inB, nsOf gn, ⟨mb, nsOf bn, bb⟩, let ⟨mc, h1, h2⟩ := nol; ⟨mc, nsOf h1, h2⟩⟩
  have hok : HOk P w H t.heap := fun b u e => by
    obtain ⟨rfl, _, rfl⟩ := only e
    exact ⟨scr, by rw [List.length_map]; exact small, vs, _, rv, scr⟩
  have env0 : Env0 P w K mg (hidT t.heap H) callerA [] t H := ⟨rfl, md, fun b o e => of_hidT e, Nat.le_of_eq (hidT_size _ _), trivial, fun b hb => (by cases hb), hok, .of_eq nog⟩
  have sq : SqL K H a (ns.map V.int) := by
    cases q : K.lookup a with
    | none => exact .inl (.inr ⟨_, by rw [eH]; exact if_pos ⟨rfl, q⟩⟩)
    | some o =>
      have e := inK a o q
      rw [scr] at e
      cases e
      exact .inr ⟨_, vs.toArray, _, q, rfl, rfl, rfl, by rw [List.size_toArray, lv]; exact small, by simpa using rv⟩
  have prem : spF G [false] F [.ref a] H (fun v _ => v = .bl true) fun _ _ _ => False := by
    refine ⟨[], [.rol (ns.map .int)], .val (.rol (by rw [hK]; exact SqL.mono (fun b o e => cut_some.mpr ⟨by simp, e⟩) sq) (reps_ns ns)) .nil, by simp [iosOf], fun a h => (by cases h), ?_⟩
    rw [ans]
    intro v H' _ r
    cases r.1
    rfl
  refine codeAny_mono ((prom _ inB (nsOf gn)).go callerA [] t H [.ref a] [.ref a] _ _ rfl room env0 (.cons rfl .nil) prem) fun r t' hr => ?_
  match r, hr with
  | .error e, ⟨_, _, _, _, _, _, _, _, _, _, _, _, z⟩ => exact z.elim
  | .ok .next, hr => exact hr.elim
  | .ok .brk, hr => exact hr.elim
  | .ok .cont, hr => exact hr.elim
  | .ok (.ret u), ⟨v, H', os, bare, un, hok', rr, q⟩ =>
    have q' : v = .bl true := q
    subst q'
    obtain rfl : u = Value.bool true := rr
    refine ⟨rfl, OldK.of_keep fun b o e => ?_, os, bare⟩
    cases q : H b with
    | none => exact un.keep b o e q (by intro z; cases z) (by simp)
    | some x =>
      obtain ⟨_, _, rfl⟩ := only q
      have z2 := un.frzs b _ _ q
      obtain ⟨e1, _⟩ := hok b _ q
      obtain ⟨e2, _⟩ := hok' b _ z2
      rw [e] at e1; cases e1
      exact e2
/-- the goal that k_head leaves -/
theorem walk_g {l : PySem.W.OpenLaw} {n k : Nat} {q : Program} {loose : List Str} {XP : (Str → Option Value) → Heap → Prop} {YP : World → Heap → Prop} {d : DefRec} {K : Params → PySem.W.Frag}
    (most : l.most = some n) (small : n ≤ sizeLine) (nodef : d.params.defaults = []) (room : Room k callerA) (hY : ∀ (w : World) (h : Heap), YP w h → (K w.params).In h)
    (prom : ∀ (w : World) (mg : Str → Option Value) (fa : Addr) (h : Heap), (K w.params).In h → h.Ns mainGlobals mg → mg d.name = some (.ref fa) → ∃ (G : Gx) (F : Fn), G.K = K w.params ∧
      (∀ base : Heap, (K w.params).In base → base.Ns mainGlobals mg → FnG l.prog w (K w.params) mg base k fa 1 (spF G [false] F)) ∧ ∀ ns : List Int, ns.length ≤ n → F [.rol (ns.map .int)] = .ok (.val (.bl true), [])) :
    PySem.W.WalkO q loose XP YP l.row.toRowW d [] (fun f vs => PySem.call f vs) := by
  refine Att.attach_call most nodef fun w s₀ s₁ mg mb fa o pm cd doc a vs ns T Y ho hd hcd hmg hobj hints hlen hg => ?_
  have inK := hY w _ Y
  obtain ⟨G, F, hK, pr, ans⟩ := prom w mg fa _ inK T.T.g hmg
  exact law_g hK inK T.T.g T.T.b T.T.builtins T.T.nolimit hg hobj hints (Nat.le_trans hlen small) room pr (ans ns hlen)
end DL
namespace DL
open PySem PySem.Spec PyProof.Rows L2
/-! ## the whole text -/
/-- a def of the text where the top has put it -/
structure DefAt (K : PySem.W.Frag) (x : Str) (st : Stmt) (ps : List Str) : Prop where
  ex : ∃ f fd, PySem.W.nsIn K mainGlobals x = some (some (.ref f)) ∧ Fun K x x st f fd ∧ Binds K fd ps [] ∧ PySem.W.keepIn K (.ref f) = true
theorem DefAt.by {K : PySem.W.Frag} {x : Str} {st : Stmt} {ps : List Str} {f : Addr} {oc : Value} {od an : Option Addr} {osl : Array (Option Value)} {kV doc pm cdv ct : Value}
    (bn : ∀ (kV doc pm : Value) (an : Option Addr) (cdv ct : Value) (us : List Value), us.length = ps.length → bindArgs (PySem.W.fnOf x x (defArgs st) (defBody st) (defScope st) .none kV doc pm an cdv ct) ⟨us, []⟩ = pure (ps.zip us))
    (a : PySem.W.nsIn K mainGlobals x = some (some (.ref f))) (l : K.lookup f = some ⟨oc, od, .func (PySem.W.fnOf x x (defArgs st) (defBody st) (defScope st) .none kV doc pm an cdv ct), osl⟩)
    (c : PySem.W.codeIn K cdv x = true) (k : PySem.W.keepIn K (.ref f) = true) : DefAt K x st ps :=
  ⟨f, _, a, fun_mk l c k, (fun_mk l c k).binds bn, k⟩
structure DictAt (K : PySem.W.Frag) (w : World) (x : Str) (kvs : List (Str × Int)) : Prop where
  ex : ∃ a, PySem.W.nsIn K mainGlobals x = some (some (.ref a)) ∧ WD K w a kvs
theorem DictAt.by {K : PySem.W.Frag} {w : World} {x : Str} {kvs : List (Str × Int)} {a : Addr} {es : Array DictEntry} {n : Nat} (h : PySem.W.nsIn K mainGlobals x = some (some (.ref a))) (l : K.lookup a = some ⟨.type "dict", none, .dict es n, #[]⟩) (low : (a == sysModules) = false)
    (k : PySem.W.KeysLit w.params es.toList) (r : EntRel es.toList kvs) : DictAt K w x kvs := ⟨a, h, ⟨es, n, ⟨l, k, low⟩, r⟩⟩
structure IntAt (K : PySem.W.Frag) (x : Str) (i : Int) : Prop where
  ex : ∃ t, PySem.W.nsIn K mainGlobals x = some (some (.int i t))
theorem IntAt.by {K : PySem.W.Frag} {x : Str} {i : Int} {t : Tok} (h : PySem.W.nsIn K mainGlobals x = some (some (.int i t))) : IntAt K x i := ⟨t, h⟩
/-- a constant of the module: a whole number, a text, a tuple of such -/
structure CstAt (K : PySem.W.Frag) (x : Str) (d : D) : Prop where
  ex : ∃ u v, PySem.W.nsIn K mainGlobals x = some (some u) ∧ RelV v u ∧ ∀ (G : Gx) (H : Hp), G.K = K → Rep G H v d
theorem CstAt.int {K : PySem.W.Frag} {x : Str} {i : Int} {t : Tok} (h : PySem.W.nsIn K mainGlobals x = some (some (.int i t))) : CstAt K x (.int i) := ⟨_, .int i, h, ⟨t, rfl⟩, fun _ _ _ => .int i⟩
theorem CstAt.str {K : PySem.W.Frag} {x : Str} {i : Str} {t : Tok} (h : PySem.W.nsIn K mainGlobals x = some (some (.str i t))) : CstAt K x (.str i) := ⟨_, .str i, h, ⟨t, rfl⟩, fun _ _ _ => .str i⟩
/-- whole numbers and texts as data -/
inductive Flat : V → Value → D → Prop
  | int {i : Int} {t : Tok} : Flat (.int i) (.int i t) (.int i)
  | str {i : Str} {t : Tok} : Flat (.str i) (.str i t) (.str i)
inductive Flats : List V → List Value → List D → Prop
  | nil : Flats [] [] []
  | cons {v : V} {u : Value} {d : D} {vs : List V} {us : List Value} {ds : List D} : Flat v u d → Flats vs us ds → Flats (v :: vs) (u :: us) (d :: ds)
theorem Flats.vals : ∀ {vs : List V} {us : List Value} {ds : List D}, Flats vs us ds → Vals vs us
  | _, _, _, .nil => .nil
  | _, _, _, .cons h r => .cons (match h with | .int => ⟨_, rfl⟩ | .str => ⟨_, rfl⟩) r.vals
theorem Flats.reps {G : Gx} {H : Hp} : ∀ {vs : List V} {us : List Value} {ds : List D}, Flats vs us ds → Reps G H vs ds
  | _, _, _, .nil => .nil
  | _, _, _, .cons h r => .cons (match h with | .int => .int _ | .str => .str _) r.reps
theorem CstAt.tup {K : PySem.W.Frag} {x : Str} {a : Addr} {its : Array Value} {n : Nat} {od : Option Addr} {osl : Array (Option Value)} {vs : List V} {ds : List D} (h : PySem.W.nsIn K mainGlobals x = some (some (.ref a))) (l : K.lookup a = some ⟨.type "tuple", od, .seq its n, osl⟩)
    (hs : its.size ≤ sizeLine) (f : Flats vs its.toList ds) : CstAt K x (.tup ds) := ⟨_, .ref a, h, rfl, fun G H hK => .tup (.inr ⟨_, its, n, hK ▸ l, rfl, rfl, hs, f.vals⟩) f.reps⟩
/-- what the text says of the j-th def -/
structure Stat (K : PySem.W.Frag) (fs : List FnS) (cs : List (Str × D)) (bs : List Str) (ds : List (Str × List (Str × Int))) (xs : List (Str × Str)) (wd : Option (Str × List (Str × Wd))) (g : FnS) (d : Def) : Prop where
  ex : ∃ st ps Γ n, DefAt K g.name st ps ∧ FnScope Γ.N ps (defScope st) ∧ Γ.sc = defScope st ∧ g.mask.length = ps.length ∧ d.m = g.mask ∧ d.n = Γ.N.length ∧ mapO (cmpS n Γ) (defBody st) = some d.body ∧ Γ.fs = fs ∧ Γ.cs = cs ∧ Γ.bs = bs ∧ Γ.ds = ds ∧ Γ.xs = xs ∧ Γ.wd = wd
theorem Stat.by {K : PySem.W.Frag} {fs : List FnS} {cs : List (Str × D)} {bs : List Str} {ds : List (Str × List (Str × Int))} {xs : List (Str × Str)} {wd : Option (Str × List (Str × Wd))} {g : FnS} {d : Def} {st : Stmt} {ps : List Str} {Γ : DL.Ctx} {n : Nat}
    (h : DefAt K g.name st ps) (S : FnScope Γ.N ps (defScope st)) (h1 : Γ.sc = defScope st) (h2 : g.mask.length = ps.length) (h3 : d.m = g.mask) (h4 : d.n = Γ.N.length) (hc : mapO (cmpS n Γ) (defBody st) = some d.body) (h5 : Γ.fs = fs) (h6 : Γ.cs = cs) (h7 : Γ.bs = bs) (h8 : Γ.ds = ds) (h9 : Γ.xs = xs) (h10 : Γ.wd = wd) : Stat K fs cs bs ds xs wd g d :=
  ⟨st, ps, Γ, n, h, S, h1, h2, h3, h4, hc, h5, h6, h7, h8, h9, h10⟩
def gxOf (K : PySem.W.Frag) (mg : Str → Option Value) (xs : List (Str × Str)) : Gx := ⟨K, fun x => match mg x with
  | some (.ref a) => some a
  | _ => none, fun c => match xs.lookup c, mg c with
  | some fl, some (.ref C) => some (C, fl)
  | _, _ => none⟩
theorem ca_of {K : PySem.W.Frag} {mg : Str → Option Value} {xs : List (Str × Str)} {c fl : Str} {C : Addr} (h : (gxOf K mg xs).ca c = some (C, fl)) : xs.lookup c = some fl ∧ mg c = some (.ref C) := by
  replace h : (match xs.lookup c, mg c with
    | some fl, some (.ref C) => some (C, fl)
    | _, _ => none) = some (C, fl) := h
  split at h
  · rename_i h1 h2
    cases h
    exact ⟨h1, h2⟩
  · cases h
/-- an error's class of the text, with its `__init__` -/
structure ClsAt (P : Program) (K : PySem.W.Frag) (c fl : Str) : Prop where
  ex : ∃ (C fI : Addr) (fd : FuncData) (r : Str) (txt : TX), PySem.W.nsIn K mainGlobals c = some (some (.ref C)) ∧ OexC K C ∧ PySem.W.findIn K (.ref C) "__init__" = some (some (.ref fI)) ∧ PySem.W.typeIn K (.ref fI) = some (.type "function") ∧
    (∀ (w : World) (mg : Str → Option Value) (base : Heap), mg "super" = none → mg "str" = none → FnOk P w K mg base DL.CX0 0 fI fd [("self" : Str), r] (spI C fl txt)) ∧ Binds K fd [("self" : Str), r] [] ∧ txt.len 10000 ≤ sizeLine
  su : PySem.W.nsIn K mainGlobals "super" = some none
  st : PySem.W.nsIn K mainGlobals "str" = some none
theorem ClsAt.raise {P : Program} {w : World} {K : PySem.W.Frag} {mg : Str → Option Value} {base : Heap} {xs : List (Str × Str)} {c fl : Str} (h : ClsAt P K c fl) (inK : K.In base) (gn : base.Ns mainGlobals mg) (hx : xs.lookup c = some fl) : RaiseAt P w K mg base (gxOf K mg xs) c fl := by
  obtain ⟨⟨C, fI, fd, r, txt, h1, h2, h3, h4, h5, h6, h7⟩, s1, s2⟩ := h
  have e := PySem.W.mg_of inK gn h1
  refine ⟨C, fI, fd, r, txt, ?_, e, h2, h3, h4, h5 w mg base (PySem.W.mg_none_of inK gn s1) (PySem.W.mg_none_of inK gn s2), h6, h7⟩
  show (match xs.lookup c, mg c with
    | some fl, some (.ref C) => some (C, fl)
    | _, _ => none) = some (C, fl)
  rw [hx, e]
/-- what a word asks of a class that may be raised -/
structure ClsE (K : PySem.W.Frag) (c fl : Str) (ns : List Str) : Prop where
  ex : ∃ C, PySem.W.nsIn K mainGlobals c = some (some (.ref C)) ∧ ExcC K C ∧ PySem.W.findIn K (.ref C) fl = some none ∧ (∀ n ∈ ns, ∃ D, PySem.W.nsIn K mainGlobals n = some (some (.ref D)) ∧ PySem.W.kitOne K (.ref C) (.ref D) = some (decide (n = c))) ∧
    PySem.W.kitOne K (.ref C) (.type "ValueError") = some true ∧ ∃ CS, PySem.W.nsIn K mainGlobals "SetError" = some (some (.ref CS)) ∧ PySem.W.exmOne K (.ref C) (.ref CS) = some true
theorem wordK_of {K : PySem.W.Frag} {mg : Str → Option Value} {base : Heap} {xs : List (Str × Str)} {ns : List Str} (inK : K.In base) (gn : base.Ns mainGlobals mg) (h : ∀ c fl, xs.lookup c = some fl → ClsE K c fl ns) : WordK K mg (gxOf K mg xs) ns := by
  refine ⟨fun c C fl hc => ?_⟩
  obtain ⟨h1, h2⟩ := ca_of hc
  obtain ⟨C', e1, e2, e3, e4, e5, _⟩ := (h c fl h1).ex
  have e := PySem.W.mg_of inK gn e1
  rw [h2] at e
  cases e
  refine ⟨e2, e3, fun n hn => ?_, e5⟩
  obtain ⟨D, d1, d2⟩ := e4 n hn
  exact ⟨D, PySem.W.mg_of inK gn d1, d2⟩
theorem exm_of_cls {K : PySem.W.Frag} {mg : Str → Option Value} {base : Heap} {xs : List (Str × Str)} {ns : List Str} {CS : Addr} (inK : K.In base) (gn : base.Ns mainGlobals mg) (h : ∀ c fl, xs.lookup c = some fl → ClsE K c fl ns) (hS : PySem.W.nsIn K mainGlobals "SetError" = some (some (.ref CS))) :
    ∃ CS, mg "SetError" = some (.ref CS) ∧ ∀ c C fl, (gxOf K mg xs).ca c = some (C, fl) → PySem.W.exmOne K (.ref C) (.ref CS) = some true := by
  refine ⟨CS, PySem.W.mg_of inK gn hS, fun c C fl hc => ?_⟩
  obtain ⟨h1, h2⟩ := ca_of hc
  obtain ⟨C', e1, _, _, _, _, CS', e6, e7⟩ := (h c fl h1).ex
  have e := PySem.W.mg_of inK gn e1
  rw [h2] at e
  cases e
  rw [hS] at e6
  cases e6
  exact e7
inductive Stats (K : PySem.W.Frag) (fs : List FnS) (cs : List (Str × D)) (bs : List Str) (ds : List (Str × List (Str × Int))) (xs : List (Str × Str)) (wd : Option (Str × List (Str × Wd))) : Tab → Prop
  | nil : Stats K fs cs bs ds xs wd []
  | cons {g : FnS} {d : Def} {r : Tab} : Stat K fs cs bs ds xs wd g d → Stats K fs cs bs ds xs wd r → Stats K fs cs bs ds xs wd ((g, d) :: r)
theorem Stats.at_ {K : PySem.W.Frag} {fs : List FnS} {cs : List (Str × D)} {bs : List Str} {ds : List (Str × List (Str × Int))} {xs : List (Str × Str)} {wd : Option (Str × List (Str × Wd))} : ∀ {t : Tab} {j : Nat} {p : FnS × Def}, Stats K fs cs bs ds xs wd t → t[j]? = some p → Stat K fs cs bs ds xs wd p.1 p.2
  | _, _, _, .nil, h => by simp at h
  | _, 0, _, .cons s _, h => by simp at h; subst h; exact s
  | _, j + 1, p, .cons _ r, h => Stats.at_ (j := j) (p := p) r (by simpa using h)
theorem prog_snd {P : Program} {w : World} {K : PySem.W.Frag} {mg : Str → Option Value} {base : Heap} {tab : Tab} {cs : List (Str × D)} {bs : List Str} {ds : List (Str × List (Str × Int))} {xs : List (Str × Str)} {wd : Option (Str × List (Str × Wd))} (inK : K.In base) (gn : base.Ns mainGlobals mg)
    (st : Stats K (tab.map (·.1)) cs bs ds xs wd tab) (hb : ∀ x, bs.contains x = true → PySem.W.nsIn K mainGlobals x = some none) (hc : ∀ x d, cs.lookup x = some d → CstAt K x d) (hd : ∀ x kvs, ds.lookup x = some kvs → DictAt K w x kvs) (hx : ∀ c fl, xs.lookup c = some fl → ClsAt P K c fl) (hw : ∀ nm hs, wd = some (nm, hs) → WordAt P w K mg base (gxOf K mg xs) nm hs) :
    ∀ (k j : Nat) (g : FnS) (d : Def), tab[j]? = some (g, d) → ∃ a, mg g.name = some (.ref a) ∧ PySem.W.keepIn K (.ref a) = true ∧ (gxOf K mg xs).fa g.name = some a ∧ FnG P w K mg base (k + 1) a g.mask.length (spF (gxOf K mg xs) g.mask (phi tab k j))
  | 0, j, g, d, h => by
    obtain ⟨s, ps, Γ, n, ⟨f, fd, q1, q2, q3, q4⟩, _⟩ := (st.at_ h).ex
    have e := PySem.W.mg_of inK gn q1
    refine ⟨f, e, q4, by unfold gxOf; simp only [e], ⟨fun vs H Q E z => ?_, fun A o s H us vs Q E _ _ _ _ z => ?_⟩⟩
    · obtain ⟨O, ds, _, _, _, z⟩ := z; exact z.elim
    · obtain ⟨O, ds, _, _, _, z⟩ := z; exact z.elim
  | k + 1, j, g, d, h => by
    obtain ⟨s, ps, Γ, n, ⟨f, fd, q1, q2, q3, q4⟩, S, h1, h2, h3, h4, hcd, h5, h6, h7, h8, h9, h10⟩ := (st.at_ h).ex
    dsimp only at h2 h3 q1
    have e := PySem.W.mg_of inK gn q1
    have C : CallEnv P w K mg base (gxOf K mg xs) Γ (phi tab k) (k + 1) := by
      refine ⟨rfl, fun x hx => ?_, fun x d hx => ?_, fun x kvs hx => ?_, fun i g' hi => ?_, fun c fl hc => ?_, fun nm hs hc => ?_⟩
      · rw [h7] at hx; exact PySem.W.mg_none_of inK gn (hb x hx)
      · rw [h6] at hx
        obtain ⟨u, v, ht, rv, rd⟩ := (hc x d hx).ex
        exact ⟨u, v, PySem.W.mg_of inK gn ht, rv, fun H => rd _ H rfl⟩
      · rw [h8] at hx
        obtain ⟨a, ha, hw⟩ := (hd x kvs hx).ex
        exact ⟨a, PySem.W.mg_of inK gn ha, hw⟩
      · rw [h5, List.getElem?_map] at hi
        obtain ⟨⟨g2, d2⟩, e2, e3⟩ := Option.map_eq_some_iff.mp hi
        cases e3
        exact prog_snd inK gn st hb hc hd hx hw k i g2 d2 e2
      · rw [h9] at hc
        exact (hx c fl hc).raise inK gn hc
      · rw [h10] at hc
        exact hw nm hs hc
    have F := fng_snd q2 S q3 h1 (by rw [h3]; exact h2) h4 hcd C (by omega)
    refine ⟨f, e, q4, by unfold gxOf; simp only [e], ?_⟩
    have hp : phi tab (k + 1) j = runD (phi tab k) d := by
      show (match tab[j]? with
        | some (_, d) => runD (phi tab k) d
        | none => fun _ => .bad) = _
      rw [h]
    rw [hp, ← h3, h3, h2, ← h3]
    exact F
/-- THE END: the law by its table; j the law's def -/
theorem law_end {l : PySem.W.OpenLaw} {n k j : Nat} {q : Program} {loose : List Str} {XP : (Str → Option Value) → Heap → Prop} {YP : World → Heap → Prop} {d : DefRec} {K : Params → PySem.W.Frag} {tab : Tab} {g : FnS} {dd : Def} {cs : List (Str × D)} {bs : List Str} {ds : List (Str × List (Str × Int))} {xs : List (Str × Str)} {wd : Option (Str × List (Str × Wd))}
    (most : l.most = some n) (small : n ≤ sizeLine) (nodef : d.params.defaults = []) (room : Room (k + 1) callerA) (hY : ∀ (w : World) (h : Heap), YP w h → (K w.params).In h) (hj : tab[j]? = some (g, dd)) (hn : g.name = d.name) (hm : g.mask = [false])
    (st : ∀ w : World, Stats (K w.params) (tab.map (·.1)) cs bs ds xs wd tab) (hb : ∀ (w : World) x, bs.contains x = true → PySem.W.nsIn (K w.params) mainGlobals x = some none) (hc : ∀ (w : World) x d, cs.lookup x = some d → CstAt (K w.params) x d) (hd : ∀ (w : World) x kvs, ds.lookup x = some kvs → DictAt (K w.params) w x kvs)
    (hx : ∀ (w : World) c fl, xs.lookup c = some fl → ClsAt l.prog (K w.params) c fl)
    (hw : ∀ (w : World) (mg : Str → Option Value) (base : Heap), (K w.params).In base → base.Ns mainGlobals mg → ∀ nm hs, wd = some (nm, hs) → WordAt l.prog w (K w.params) mg base (gxOf (K w.params) mg xs) nm hs)
    (ans : ∀ ns : List Int, ns.length ≤ n → phi tab k j [.rol (ns.map .int)] = .ok (.val (.bl true), [])) :
    PySem.W.WalkO q loose XP YP l.row.toRowW d [] (fun f vs => PySem.call f vs) := by
  refine walk_g most small nodef room hY fun w mg fa h inK gn hmg => ⟨gxOf (K w.params) mg xs, phi tab k j, rfl, fun base inB gb => ?_, ans⟩
  obtain ⟨a, h1, h2, h3, F⟩ := prog_snd (P := l.prog) (w := w) inB gb (st w) (hb w) (hc w) (hd w) (hx w) (hw w mg base inB gb) k j g dd hj
  rw [hn, hmg] at h1
  cases h1
  rw [hm] at F
  exact F
end DL
namespace DL
open PySem L2
/-! ## running codes on a written state -/
section
variable {Φ : Nat → Fn} {s : Slot} {ρ : Sts} {es : List E} {a b c : E} {i : Nat}
@[simp] theorem ev_lit {d : D} {ρ : Sts} : ev Φ (.lit d) ρ = .ok (.val d, ρ) := Eq.trans rfl rfl
@[simp] theorem ev_var : ev Φ (.var i) (s :: ρ) = getv (s :: ρ) i := Eq.trans rfl rfl
@[simp] theorem ev_op {o : Op} : ev Φ (.op o es) (s :: ρ) = (evBs Φ es (s :: ρ)).bind (opR o) := Eq.trans rfl rfl
@[simp] theorem ev_mk {o : Mk} : ev Φ (.mk o es) (s :: ρ) = (evVs Φ es (s :: ρ)).bind fun p => (R.ofO (mkf o p.1)).map fun s => (s, p.2) := Eq.trans rfl rfl
@[simp] theorem ev_and : ev Φ (.and a b) (s :: ρ) = (rel (ev Φ a (s :: ρ))).bind fun p => match truth p.1 with
    | some true => (rel (ev Φ b p.2)).map fun q => (.val q.1, q.2)
    | some false => .ok (.val p.1, p.2)
    | none => .bad := Eq.trans rfl rfl
@[simp] theorem ev_or : ev Φ (.or a b) (s :: ρ) = (rel (ev Φ a (s :: ρ))).bind fun p => match truth p.1 with
    | some true => .ok (.val p.1, p.2)
    | some false => (rel (ev Φ b p.2)).map fun q => (.val q.1, q.2)
    | none => .bad := Eq.trans rfl rfl
@[simp] theorem ev_ife : ev Φ (.ife a b c) (s :: ρ) = (tru (rel (ev Φ a (s :: ρ)))).bind fun p => if p.1 then (rel (ev Φ b p.2)).map fun q => (.val q.1, q.2) else (rel (ev Φ c p.2)).map fun q => (.val q.1, q.2) := Eq.trans rfl rfl
@[simp] theorem ev_chain {o o2 : CmpOp} : ev Φ (.chain a o b o2 c) (s :: ρ) = (rel (ev Φ a (s :: ρ))).bind fun p => (rel (ev Φ b p.2)).bind fun q => match cmpf o p.1 q.1 with
    | some true => (rel (ev Φ c q.2)).bind fun r => (R.ofO (cmpf o2 q.1 r.1)).map fun x => (.val (.bl x), r.2)
    | some false => .ok (.val (.bl false), q.2)
    | none => .bad := Eq.trans rfl rfl
@[simp] theorem ev_call {f : Nat} {m : List Bool} : ev Φ (.call f m es) (s :: ρ) = (evCs Φ m es (s :: ρ)).bind (callR Φ f) := Eq.trans rfl rfl
@[simp] theorem ev_callv {fs : List (Str × Nat × Nat)} : ev Φ (.callv i fs es) (s :: ρ) = match (s :: ρ)[i]? with
    | some (.val (.fn x)) => (match fs.lookup x with
      | some (f, n) => if es.length = n then (evCs Φ [] es (s :: ρ)).bind (callR Φ f) else .bad
      | none => .bad)
    | _ => .bad := Eq.trans rfl rfl
@[simp] theorem ev_chain3 {o o2 o3 : CmpOp} {d : E} : ev Φ (.chain3 a o b o2 c o3 d) (s :: ρ) = (rel (ev Φ a (s :: ρ))).bind fun p => (rel (ev Φ b p.2)).bind fun q => match cmpf o p.1 q.1 with
    | some true => (rel (ev Φ c q.2)).bind fun r => (match cmpf o2 q.1 r.1 with
      | some true => (rel (ev Φ d r.2)).bind fun u => (R.ofO (cmpf o3 r.1 u.1)).map fun x => (.val (.bl x), u.2)
      | some false => .ok (.val (.bl false), r.2)
      | none => .bad)
    | some false => .ok (.val (.bl false), q.2)
    | none => .bad := Eq.trans rfl rfl
@[simp] theorem ev_mu {m : Mu} : ev Φ (.mu m i es) (s :: ρ) = if isLst (s :: ρ) i then (evVs Φ es (s :: ρ)).bind (muR m i) else .bad := Eq.trans rfl rfl
theorem ev_lc {vs : List Nat} {t : T} {k : Sk} {src ifs : List E} {elt : E} : ev Φ (.lc vs t k src ifs elt) (s :: ρ) = (evVs Φ src (s :: ρ)).bind fun p => match srcf k p.1 with
    | some items => if ownAny p.2 vs then .bad else
        (noExc (lcLoop vs t (fun ρ => evTs Φ ifs ρ) (fun ρ => rel (ev Φ elt ρ)) items [] (wipeE p.2 vs))).map fun q => (.own (.lst q.1), backE p.2 q.2 vs)
    | none => .bad := Eq.trans rfl rfl
@[simp] theorem evVs_nil {ρ : Sts} : evVs Φ [] ρ = .ok ([], ρ) := Eq.trans rfl rfl
@[simp] theorem evVs_cons : evVs Φ (a :: es) (s :: ρ) = (rel (ev Φ a (s :: ρ))).bind fun p => (evVs Φ es p.2).map fun q => (p.1 :: q.1, q.2) := Eq.trans rfl rfl
@[simp] theorem evPs_nil {ρ : Sts} : evPs Φ [] ρ = .ok ([], ρ) := Eq.trans rfl rfl
@[simp] theorem evPs_cons : evPs Φ (a :: es) (s :: ρ) = (ev Φ a (s :: ρ)).bind fun p => (evPs Φ es p.2).map fun q => (p.1 :: q.1, q.2) := Eq.trans rfl rfl
@[simp] theorem evBs_nil {ρ : Sts} : evBs Φ [] ρ = .ok ([], ρ) := Eq.trans rfl rfl
@[simp] theorem evBs_cons : evBs Φ (a :: es) (s :: ρ) = (bw a (s :: ρ) (rel (ev Φ a (s :: ρ)))).bind fun p => (evBs Φ es p.2).map fun q => (p.1 :: q.1, q.2) := Eq.trans rfl rfl
@[simp] theorem evCs_nil {m : List Bool} {ρ : Sts} : evCs Φ m [] ρ = .ok ([], ρ) := by cases m <;> rfl
@[simp] theorem evCs_cons {m : List Bool} : evCs Φ m (a :: es) (s :: ρ) = (cw (m.headD false) a (s :: ρ) (rel (ev Φ a (s :: ρ)))).bind fun p => (evCs Φ m.tail es p.2).map fun q => (p.1 :: q.1, q.2) := by cases m <;> rfl
@[simp] theorem evTs_nil {ρ : Sts} : evTs Φ [] ρ = .ok (true, ρ) := Eq.trans rfl rfl
@[simp] theorem evTs_cons : evTs Φ (a :: es) (s :: ρ) = (tru (rel (ev Φ a (s :: ρ)))).bind fun p => if p.1 then evTs Φ es p.2 else .ok (false, p.2) := Eq.trans rfl rfl
@[simp] theorem bw_var {r : R Sts (D × Sts)} : bw (.var i) (s :: ρ) r = if isOwn (s :: ρ) i then .ok (.ref i, s :: ρ) else r.map fun p => (.dat p.1, p.2) := Eq.trans rfl rfl
theorem bw_ne {r : R Sts (D × Sts)} {ρ : Sts} (h : ∀ i, a ≠ .var i) : bw a ρ r = r.map fun p => (.dat p.1, p.2) := by
  cases a with
  | var i => exact absurd rfl (h i)
  | _ => rfl
@[simp] theorem bw_lit {r : R Sts (D × Sts)} {d : D} {ρ : Sts} : bw (.lit d) ρ r = r.map fun p => (.dat p.1, p.2) := Eq.trans rfl rfl
@[simp] theorem bw_op {r : R Sts (D × Sts)} {o : Op} {ρ : Sts} : bw (.op o es) ρ r = r.map fun p => (.dat p.1, p.2) := Eq.trans rfl rfl
@[simp] theorem bw_mk {r : R Sts (D × Sts)} {o : Mk} {ρ : Sts} : bw (.mk o es) ρ r = r.map fun p => (.dat p.1, p.2) := Eq.trans rfl rfl
@[simp] theorem bw_and {r : R Sts (D × Sts)} {ρ : Sts} : bw (.and a b) ρ r = r.map fun p => (.dat p.1, p.2) := Eq.trans rfl rfl
@[simp] theorem bw_or {r : R Sts (D × Sts)} {ρ : Sts} : bw (.or a b) ρ r = r.map fun p => (.dat p.1, p.2) := Eq.trans rfl rfl
@[simp] theorem bw_ife {r : R Sts (D × Sts)} {ρ : Sts} : bw (.ife a b c) ρ r = r.map fun p => (.dat p.1, p.2) := Eq.trans rfl rfl
@[simp] theorem bw_chain {r : R Sts (D × Sts)} {ρ : Sts} {o o2 : CmpOp} : bw (.chain a o b o2 c) ρ r = r.map fun p => (.dat p.1, p.2) := Eq.trans rfl rfl
@[simp] theorem bw_call {r : R Sts (D × Sts)} {ρ : Sts} {f : Nat} {m : List Bool} : bw (.call f m es) ρ r = r.map fun p => (.dat p.1, p.2) := Eq.trans rfl rfl
@[simp] theorem bw_callv {r : R Sts (D × Sts)} {ρ : Sts} {fs : List (Str × Nat × Nat)} : bw (.callv i fs es) ρ r = r.map fun p => (.dat p.1, p.2) := Eq.trans rfl rfl
@[simp] theorem bw_chain3 {r : R Sts (D × Sts)} {ρ : Sts} {o o2 o3 : CmpOp} {d : E} : bw (.chain3 a o b o2 c o3 d) ρ r = r.map fun p => (.dat p.1, p.2) := Eq.trans rfl rfl
@[simp] theorem bw_mu {r : R Sts (D × Sts)} {ρ : Sts} {m : Mu} : bw (.mu m i es) ρ r = r.map fun p => (.dat p.1, p.2) := Eq.trans rfl rfl
@[simp] theorem bw_lc {r : R Sts (D × Sts)} {ρ : Sts} {vs : List Nat} {t : T} {k : Sk} {src ifs : List E} {elt : E} : bw (.lc vs t k src ifs elt) ρ r = r.map fun p => (.dat p.1, p.2) := Eq.trans rfl rfl
@[simp] theorem cw_false {r : R Sts (D × Sts)} {ρ : Sts} : cw false a ρ r = r.map fun p => (.dat p.1, p.2) := Eq.trans rfl rfl
@[simp] theorem cw_var {r : R Sts (D × Sts)} : cw true (.var i) (s :: ρ) r = if isOwn (s :: ρ) i then .ok (.ref i, s :: ρ) else .bad := Eq.trans rfl rfl
@[simp] theorem rel_ok {p : Slot × Sts} : rel (.ok p) = .ok (p.1.d, p.2) := Eq.trans rfl rfl
@[simp] theorem rel_bad : rel .bad = .bad := Eq.trans rfl rfl
@[simp] theorem rel_exc {x : Str} {d : D} {ρ : Sts} : rel (.exc x d ρ) = .exc x d ρ := Eq.trans rfl rfl
@[simp] theorem tru_ok {p : D × Sts} : tru (.ok p) = match truth p.1 with
  | some b => .ok (b, p.2)
  | none => .bad := Eq.trans rfl rfl
@[simp] theorem tru_bad : tru .bad = .bad := Eq.trans rfl rfl
@[simp] theorem getv_val0 {d : D} : getv (.val d :: ρ) 0 = .ok (.val d, .val d :: ρ) := Eq.trans rfl rfl
@[simp] theorem getv_own0 {d : D} : getv (.own d :: ρ) 0 = .ok (.val d, .val d :: ρ) := Eq.trans rfl rfl
@[simp] theorem getv_emp0 : getv (.emp :: ρ) 0 = .bad := Eq.trans rfl rfl
@[simp] theorem getv_io0 {d : D} : getv (.io d :: ρ) 0 = .bad := Eq.trans rfl rfl
@[simp] theorem getv_succ : getv (s :: ρ) (i + 1) = (getv ρ i).map fun p => (p.1, s :: p.2) := by
  unfold getv
  rw [List.getElem?_cons_succ]
  cases h : ρ[i]? with
  | none => rfl
  | some t => cases t <;> simp
@[simp] theorem isOwn_val0 {d : D} : isOwn (.val d :: ρ) 0 = false := Eq.trans rfl rfl
@[simp] theorem isOwn_own0 {d : D} : isOwn (.own d :: ρ) 0 = true := Eq.trans rfl rfl
@[simp] theorem isOwn_io0 {d : D} : isOwn (.io d :: ρ) 0 = true := Eq.trans rfl rfl
@[simp] theorem isOwn_emp0 : isOwn (.emp :: ρ) 0 = false := Eq.trans rfl rfl
@[simp] theorem isLst_val0 {d : D} : isLst (.val d :: ρ) 0 = false := Eq.trans rfl rfl
@[simp] theorem isLst_own0 {d : D} : isLst (.own d :: ρ) 0 = d.isLst := Eq.trans rfl rfl
@[simp] theorem isLst_io0 {d : D} : isLst (.io d :: ρ) 0 = d.isLst := Eq.trans rfl rfl
@[simp] theorem isLst_emp0 : isLst (.emp :: ρ) 0 = false := Eq.trans rfl rfl
@[simp] theorem isLst_succ : isLst (s :: ρ) (i + 1) = isLst ρ i := Eq.trans rfl rfl
@[simp] theorem isLst_lst {xs : List D} : (D.lst xs).isLst = true := Eq.trans rfl rfl
@[simp] theorem isOwn_succ : isOwn (s :: ρ) (i + 1) = isOwn ρ i := Eq.trans rfl rfl
@[simp] theorem opR_cons {o : Op} {as : List Arg} : opR o (as, s :: ρ) = match gets (s :: ρ) as with
  | some ds => (R.ofO (opf o ds)).map fun t => (t, s :: ρ)
  | none => .bad := Eq.trans rfl rfl
@[simp] theorem gets_nil : gets ρ [] = some [] := Eq.trans rfl rfl
@[simp] theorem gets_dat {d : D} {as : List Arg} : gets ρ (.dat d :: as) = (gets ρ as).map (d :: ·) := by
  show (match (Arg.dat d).get ρ, gets ρ as with
    | some d, some ds => some (d :: ds)
    | _, _ => none) = _
  cases gets ρ as <;> rfl
@[simp] theorem gets_ref {as : List Arg} : gets (s :: ρ) (.ref i :: as) = match ((s :: ρ)[i]?).bind Slot.mu? with
  | some d => (gets (s :: ρ) as).map (d :: ·)
  | none => none := by
  show (match (Arg.ref i).get (s :: ρ), gets (s :: ρ) as with
    | some d, some ds => some (d :: ds)
    | _, _ => none) = _
  show (match ((s :: ρ)[i]?).bind Slot.mu?, gets (s :: ρ) as with
    | some d, some ds => some (d :: ds)
    | _, _ => none) = _
  cases ((s :: ρ)[i]?).bind Slot.mu? with
  | none => rfl
  | some d => cases gets (s :: ρ) as <;> rfl
@[simp] theorem mu_own {d : D} : (Slot.own d).mu? = some d := Eq.trans rfl rfl
@[simp] theorem mu_io {d : D} : (Slot.io d).mu? = some d := Eq.trans rfl rfl
@[simp] theorem mu_val {d : D} : (Slot.val d).mu? = none := Eq.trans rfl rfl
@[simp] theorem callR_cons {f : Nat} {as : List Arg} : callR Φ f (as, s :: ρ) = match gets (s :: ρ) as with
  | some ds => if (refs as).Nodup then (match Φ f ds with
      | .ok (t, cs) => (R.ofO (setIos as cs (s :: ρ))).map fun ρ => (t, ρ)
      | .exc c x cs => (R.ofO (setIos as cs (s :: ρ))).bind fun ρ => .exc c x ρ
      | .bad => .bad) else .bad
  | none => .bad := Eq.trans rfl rfl
@[simp] theorem refs_nil : refs [] = [] := Eq.trans rfl rfl
@[simp] theorem refs_dat {d : D} {as : List Arg} : refs (.dat d :: as) = refs as := Eq.trans rfl rfl
@[simp] theorem refs_ref {as : List Arg} : refs (.ref i :: as) = i :: refs as := Eq.trans rfl rfl
@[simp] theorem setIos_nil : setIos [] [] ρ = some ρ := Eq.trans rfl rfl
@[simp] theorem setIos_dat {d : D} {as : List Arg} {cs : List D} : setIos (.dat d :: as) cs ρ = setIos as cs ρ := by cases cs <;> rfl
@[simp] theorem setIos_ref {as : List Arg} {x : D} {cs : List D} : setIos (.ref i :: as) (x :: cs) ρ = setIos as cs (putE ρ i x) := Eq.trans rfl rfl
@[simp] theorem putE_own0 {d x : D} : putE (.own d :: ρ) 0 x = .own x :: ρ := Eq.trans rfl rfl
@[simp] theorem putE_io0 {d x : D} : putE (.io d :: ρ) 0 x = .io x :: ρ := Eq.trans rfl rfl
@[simp] theorem putE_succ {x : D} : putE (s :: ρ) (i + 1) x = s :: putE ρ i x := Eq.trans rfl rfl
@[simp] theorem muR_cons {m : Mu} {ds : List D} : muR m i (ds, s :: ρ) = match ((s :: ρ)[i]?).bind Slot.mu? with
  | some d => match muf m d ds with
    | some (r, d') => .ok (.val r, putE (s :: ρ) i d')
    | none => .bad
  | none => .bad := Eq.trans rfl rfl
@[simp] theorem truth_bl {b : Bool} : truth (.bl b) = some b := Eq.trans rfl rfl
@[simp] theorem truth_int {i : Int} : truth (.int i) = some (i != 0) := Eq.trans rfl rfl
@[simp] theorem truth_non : truth .non = some false := Eq.trans rfl rfl
@[simp] theorem truth_lst {xs : List D} : truth (.lst xs) = some (!xs.isEmpty) := Eq.trans rfl rfl
@[simp] theorem truth_tup {xs : List D} : truth (.tup xs) = some (!xs.isEmpty) := Eq.trans rfl rfl
/-! statements -/
@[simp] theorem evSs_nil {ρ : Sts} : evSs Φ [] ρ = .ok (.nx ρ) := Eq.trans rfl rfl
@[simp] theorem evSs_cons {st : S} {r : List S} : evSs Φ (st :: r) (s :: ρ) = thenR (evS Φ st (s :: ρ)) fun ρ1 => evSs Φ r ρ1 := Eq.trans rfl rfl
@[simp] theorem thenR_nx {ρ : Sts} {f : Sts → R Sts Out} : thenR (.ok (.nx ρ)) f = f ρ := Eq.trans rfl rfl
@[simp] theorem thenR_rt {ρ : Sts} {t : Slot} {f : Sts → R Sts Out} : thenR (.ok (.rt t ρ)) f = .ok (.rt t ρ) := Eq.trans rfl rfl
@[simp] theorem thenR_bk {ρ : Sts} {f : Sts → R Sts Out} : thenR (.ok (.bk ρ)) f = .ok (.bk ρ) := Eq.trans rfl rfl
@[simp] theorem thenR_ct {ρ : Sts} {f : Sts → R Sts Out} : thenR (.ok (.ct ρ)) f = .ok (.ct ρ) := Eq.trans rfl rfl
@[simp] theorem thenR_bad {f : Sts → R Sts Out} : thenR .bad f = .bad := Eq.trans rfl rfl
@[simp] theorem evS_asg {t : T} : evS Φ (.asg t a) (s :: ρ) = (ev Φ a (s :: ρ)).bind fun p => (R.ofO (assignT t p.1 p.2)).map .nx := Eq.trans rfl rfl
@[simp] theorem evS_par {ts : List (Nat × Bool)} : evS Φ (.par ts es) (s :: ρ) = (evPs Φ es (s :: ρ)).bind fun p => (R.ofO (assignPs ts p.1 p.2)).map .nx := Eq.trans rfl rfl
@[simp] theorem evS_seti : evS Φ (.seti i a b) (s :: ρ) = (rel (ev Φ b (s :: ρ))).bind fun x => if isOwn x.2 i then (rel (ev Φ a x.2)).bind fun y => match (y.2[i]?).bind Slot.mu? with
    | some d => (R.ofO (setf d y.1 x.1)).map fun d' => .nx (putE y.2 i d')
    | none => .bad
    else .bad := Eq.trans rfl rfl
@[simp] theorem evS_aug {o : Operator} : evS Φ (.aug i o a) (s :: ρ) = match (s :: ρ)[i]? with
    | some (.val d) => (rel (ev Φ a (s :: ρ))).bind fun x => (R.ofO (augf o d x.1)).map fun d' => .nx (x.2.set i (.val d'))
    | _ => .bad := Eq.trans rfl rfl
@[simp] theorem evS_ret : evS Φ (.ret a) (s :: ρ) = (ev Φ a (s :: ρ)).map fun p => .rt p.1 p.2 := Eq.trans rfl rfl
@[simp] theorem evS_retn {ρ : Sts} : evS Φ .retn ρ = .ok (.rt (.val .non) ρ) := Eq.trans rfl rfl
@[simp] theorem evS_reto : evS Φ (.reto i) (s :: ρ) = match (s :: ρ)[i]? with
    | some (.own d) => .ok (.rt (.own d) ((s :: ρ).set i .emp))
    | some (.val d) => .ok (.rt (.val d) (s :: ρ))
    | _ => .bad := Eq.trans rfl rfl
@[simp] theorem evS_exp : evS Φ (.exp a) (s :: ρ) = (ev Φ a (s :: ρ)).map fun p => .nx p.2 := Eq.trans rfl rfl
@[simp] theorem evS_pass {ρ : Sts} : evS Φ .pass ρ = .ok (.nx ρ) := Eq.trans rfl rfl
@[simp] theorem evS_brk {ρ : Sts} : evS Φ .brk ρ = .ok (.bk ρ) := Eq.trans rfl rfl
@[simp] theorem evS_tryn {x : List S} {ρ : Sts} : evS Φ (.tryn x) ρ = noExc (evSs Φ x ρ) := Eq.trans rfl rfl
@[simp] theorem evS_tryw {x : List S} {hs : List (Str × Wd)} {ρ : Sts} : evS Φ (.tryw x hs i) ρ = wordR hs i (evSs Φ x ρ) := Eq.trans rfl rfl
@[simp] theorem evS_raise {c : Str} : evS Φ (.raise c a) (s :: ρ) = (rel (ev Φ a (s :: ρ))).bind fun p => if okX p.1 then .exc c p.1 p.2 else .bad := Eq.trans rfl rfl
@[simp] theorem wordR_ok {hs : List (Str × Wd)} {o : Out} : wordR hs i (.ok o) = .ok o := Eq.trans rfl rfl
theorem wordR_exc {hs : List (Str × Wd)} {c : Str} {x : D} {ρ : Sts} : wordR hs i (.exc c x ρ) = match wordD hs c x with
    | some w => if i < ρ.length then .ok (.rt (.val w) ρ) else .bad
    | none => .bad := Eq.trans rfl rfl
theorem okX_str {s : Str} : okX (.str s) = decide (s.length ≤ 10000) := Eq.trans rfl rfl
theorem okX_int {i : Int} : okX (.int i) = decide (i.natAbs.log2 < 100) := Eq.trans rfl rfl
@[simp] theorem thenR_exc {c : Str} {x : D} {e : Sts} {f : Sts → R Sts Out} : thenR (.exc c x e) f = .exc c x e := Eq.trans rfl rfl
@[simp] theorem evS_cnt {ρ : Sts} : evS Φ .cnt ρ = .ok (.ct ρ) := Eq.trans rfl rfl
@[simp] theorem evS_ite {x y : List S} : evS Φ (.ite a x y) (s :: ρ) = (tru (rel (ev Φ a (s :: ρ)))).bind fun p => if p.1 then evSs Φ x p.2 else evSs Φ y p.2 := Eq.trans rfl rfl
theorem evS_whl {x : List S} : evS Φ (.whl a x) (s :: ρ) = whlR (fun ρ => tru (rel (ev Φ a ρ))) (fun ρ => evSs Φ x ρ) fuel (s :: ρ) := Eq.trans rfl rfl
theorem evS_for {t : T} {k : Sk} {src : List E} {x : List S} : evS Φ (.for t k src x) (s :: ρ) = (evVs Φ src (s :: ρ)).bind fun p => match srcf k p.1 with
    | some items => forR (fun x' ρ => (R.ofO (assignT t (.val x') ρ)).bind fun ρ1 => evSs Φ x ρ1) items p.2
    | none => .bad := Eq.trans rfl rfl
@[simp] theorem assign_name {o : Bool} {t : Slot} : assignT (.name i o) t (s :: ρ) = if i < (s :: ρ).length then some ((s :: ρ).set i (if o then t else .val t.d)) else none := Eq.trans rfl rfl
@[simp] theorem assignPs_nil {ρ : Sts} : assignPs [] [] ρ = some ρ := Eq.trans rfl rfl
@[simp] theorem assignPs_cons {o : Bool} {ts : List (Nat × Bool)} {t : Slot} {ss : List Slot} : assignPs ((i, o) :: ts) (t :: ss) (s :: ρ) = (assignT (.name i o) t (s :: ρ)).bind fun ρ1 => assignPs ts ss ρ1 := Eq.trans rfl rfl
@[simp] theorem assign_tup {ts : List T} {xs : List D} : assignT (.tup ts) (.val (.tup xs)) (s :: ρ) = if xs.length = ts.length then assignTs ts xs (s :: ρ) else none := Eq.trans rfl rfl
@[simp] theorem assign_tupO {ts : List T} {xs : List D} : assignT (.tup ts) (.own (.lst xs)) (s :: ρ) = if xs.length = ts.length then assignTs ts xs (s :: ρ) else none := Eq.trans rfl rfl
@[simp] theorem assign_tupL {ts : List T} {xs : List D} : assignT (.tup ts) (.val (.lst xs)) (s :: ρ) = if xs.length = ts.length then assignTs ts xs (s :: ρ) else none := Eq.trans rfl rfl
@[simp] theorem assignTs_nil {ρ : Sts} : assignTs [] [] ρ = some ρ := Eq.trans rfl rfl
@[simp] theorem assignTs_cons {t : T} {ts : List T} {x : D} {xs : List D} : assignTs (t :: ts) (x :: xs) (s :: ρ) = (assignT t (.val x) (s :: ρ)).bind fun ρ1 => assignTs ts xs ρ1 := Eq.trans rfl rfl
@[simp] theorem forR_nil {st : D → Sts → R Sts Out} {ρ : Sts} : forR st [] ρ = .ok (.nx ρ) := Eq.trans rfl rfl
@[simp] theorem lc_nil {vs : List Nat} {t : T} {f : Sts → R Sts (Bool × Sts)} {g : Sts → R Sts (D × Sts)} {acc : List D} {ρ : Sts} : lcLoop vs t f g [] acc ρ = .ok (acc, ρ) := Eq.trans rfl rfl
@[simp] theorem noExc_ok {α : Type} {x : α} : noExc (.ok x : R Sts α) = .ok x := Eq.trans rfl rfl
theorem runD_of {d : Def} {ds : List D} (h : ds.length = d.m.length) : runD Φ d ds = match evSs Φ d.body (entry d.m ds ++ List.replicate (d.n - d.m.length) .emp) with
    | .ok (.nx ρ) => outR d.ro d.m (.val .non) ρ
    | .ok (.rt s ρ) => outR d.ro d.m s ρ
    | .ok _ => .bad
    | .exc c x ρ => (R.ofO (outIos d.m ρ)).bind fun cs => .exc c x cs
    | .bad => .bad := by unfold runD; exact if_pos h
@[simp] theorem entry_nil {m : List Bool} : entry m [] = [] := by cases m <;> rfl
@[simp] theorem entry_cons {m : List Bool} {d : D} {ds : List D} : entry m (d :: ds) = (if m.headD false then Slot.io d else Slot.val d) :: entry m.tail ds := by cases m <;> rfl
@[simp] theorem outR_def {ro : Bool} {m : List Bool} {t : Slot} {ρ : Sts} : outR ro m t ρ = (R.ofO (outIos m ρ)).map fun cs => ((if ro then t else .val t.d), cs) := Eq.trans rfl rfl
@[simp] theorem outIos_nil {ρ : Sts} : outIos [] ρ = some [] := Eq.trans rfl rfl
@[simp] theorem outIos_f {m : List Bool} : outIos (false :: m) (s :: ρ) = outIos m ρ := Eq.trans rfl rfl
@[simp] theorem outIos_t {m : List Bool} {d : D} : outIos (true :: m) (.io d :: ρ) = (outIos m ρ).map (d :: ·) := Eq.trans rfl rfl
end
end DL
namespace DL
open PySem L2
/-! ## places in lists -/
theorem ixN_nat {n j : Nat} (h : j < n) : ixN n (j : Int) = some j := by
  unfold ixN
  rw [if_pos (by omega), if_pos (by omega)]; simp
theorem atI_of {α : Type} {xs : List α} {i : Int} {j : Nat} {x : α} (e : i = (j : Int)) (h : xs[j]? = some x) : atI xs i = some x := by
  subst e; exact atI_nat h
@[simp] theorem atI_0 {α : Type} {x : α} {r : List α} : atI (x :: r) 0 = some x := atI_of (j := 0) rfl rfl
@[simp] theorem atI_1 {α : Type} {x y : α} {r : List α} : atI (x :: y :: r) 1 = some y := atI_of (j := 1) rfl rfl
@[simp] theorem atI_2 {α : Type} {x y z : α} {r : List α} : atI (x :: y :: z :: r) 2 = some z := atI_of (j := 2) rfl rfl
@[simp] theorem atI_3 {α : Type} {x y z w : α} {r : List α} : atI (x :: y :: z :: w :: r) 3 = some w := atI_of (j := 3) rfl rfl
@[simp] theorem ixN_0 {n : Nat} : ixN (n + 1) 0 = some 0 := by
  have := ixN_nat (n := n + 1) (j := 0) (by omega)
  simpa using this
@[simp] theorem ixN_1 {n : Nat} : ixN (n + 1 + 1) 1 = some 1 := ixN_nat (j := 1) (by omega)
@[simp] theorem ixN_2 {n : Nat} : ixN (n + 1 + 1 + 1) 2 = some 2 := ixN_nat (j := 2) (by omega)
@[simp] theorem ixN_3 {n : Nat} : ixN (n + 1 + 1 + 1 + 1) 3 = some 3 := ixN_nat (j := 3) (by omega)
theorem atI_list {α : Type} {xs : List α} {i : Int} (h0 : 0 ≤ i) (h1 : i < xs.length) : ∃ x, atI xs i = some x ∧ xs[i.toNat]? = some x := by
  have hl : i.toNat < xs.length := by omega
  exact ⟨xs[i.toNat], atI_of (j := i.toNat) (by omega) (by simp [hl]), by simp [hl]⟩
/-! ## comparisons of small data -/
@[simp] theorem okd_int {i : Int} : (D.int i).okd = true := by
  unfold D.okd; simp [D.pure, D.py, SeqAt.shaped, PyData.canLay0, PyData.depth]
@[simp] theorem okd_bl {b : Bool} : (D.bl b).okd = true := by
  unfold D.okd; simp [D.pure, D.py, SeqAt.shaped, PyData.canLay0, PyData.depth]
@[simp] theorem okd_non : (D.non).okd = true := by
  unfold D.okd; simp [D.pure, D.py, SeqAt.shaped, PyData.canLay0, PyData.depth]
theorem okd_str {s : Str} : (D.str s).okd = PyData.strOk s := by
  unfold D.okd; simp [D.pure, D.py, SeqAt.shaped, PyData.canLay0, PyData.depth]
@[simp] theorem eqv_int {i j : Int} : (D.int i).eqv (.int j) = (i == j) := Eq.trans rfl rfl
@[simp] theorem eqv_str {i j : Str} : (D.str i).eqv (.str j) = (i == j) := Eq.trans rfl rfl
@[simp] theorem cmp_eqI {i j : Int} : cmpf .Eq (.int i) (.int j) = some (decide (i = j)) := by
  simp only [cmpf, okd_int, eqv_int, Bool.and_self, if_true, Option.some.injEq]
  by_cases h : i = j <;> simp [h]
@[simp] theorem cmp_neI {i j : Int} : cmpf .NotEq (.int i) (.int j) = some (!decide (i = j)) := by
  simp only [cmpf, okd_int, eqv_int, Bool.and_self, if_true, Option.some.injEq]
  by_cases h : i = j <;> simp [h]
@[simp] theorem cmp_eqS {i j : Str} : cmpf .Eq (.str i) (.str j) = some (decide (i = j)) := Eq.trans rfl rfl
@[simp] theorem cmp_neS {i j : Str} : cmpf .NotEq (.str i) (.str j) = some (!decide (i = j)) := Eq.trans rfl rfl
@[simp] theorem cmp_lt {i j : Int} : cmpf .Lt (.int i) (.int j) = some (decide (i < j)) := Eq.trans rfl rfl
@[simp] theorem cmp_le {i j : Int} : cmpf .LtE (.int i) (.int j) = some (decide (i ≤ j)) := Eq.trans rfl rfl
@[simp] theorem cmp_gt {i j : Int} : cmpf .Gt (.int i) (.int j) = some (decide (j < i)) := Eq.trans rfl rfl
@[simp] theorem cmp_ge {i j : Int} : cmpf .GtE (.int i) (.int j) = some (decide (j ≤ i)) := Eq.trans rfl rfl
@[simp] theorem opf_cmp {o : CmpOp} {a b : D} : opf (.cmp o) [a, b] = b1 (cmpf o a b) := Eq.trans rfl rfl
@[simp] theorem b1_some' {b : Bool} : b1 (some b) = some (.val (.bl b)) := Eq.trans rfl rfl
@[simp] theorem opf_ixL {xs : List D} {i : Int} : opf .ix [.lst xs, .int i] = (atI xs i).map .val := Eq.trans rfl rfl
@[simp] theorem opf_ixT {xs : List D} {i : Int} : opf .ix [.tup xs, .int i] = (atI xs i).map .val := Eq.trans rfl rfl
@[simp] theorem opf_lenL {xs : List D} : opf .len [.lst xs] = some (.val (.int xs.length)) := Eq.trans rfl rfl
@[simp] theorem opf_lenT {xs : List D} : opf .len [.tup xs] = some (.val (.int xs.length)) := Eq.trans rfl rfl
@[simp] theorem opf_neg {i : Int} : opf .neg [.int i] = some (.val (.int (-i))) := Eq.trans rfl rfl
@[simp] theorem opf_int {i : Int} : opf .int [.int i] = some (.val (.int i)) := Eq.trans rfl rfl
@[simp] theorem opf_ck {i : Int} : opf .ck [.int i] = some (.val (.int i)) := Eq.trans rfl rfl
@[simp] theorem opf_abs {i : Int} : opf .abs [.int i] = some (.val (.int (if i < 0 then -i else i))) := Eq.trans rfl rfl
@[simp] theorem opf_bin {o : Operator} {a b : D} : opf (.bin o) [a, b] = binf o a b := Eq.trans rfl rfl
@[simp] theorem bin_add {i j : Int} : binf .Add (.int i) (.int j) = some (.val (.int (i + j))) := Eq.trans rfl rfl
@[simp] theorem bin_sub {i j : Int} : binf .Sub (.int i) (.int j) = some (.val (.int (i - j))) := Eq.trans rfl rfl
@[simp] theorem setf_l {xs : List D} {i : Int} {v : D} : setf (.lst xs) (.int i) v = (ixN xs.length i).map fun j => .lst (xs.set j v) := Eq.trans rfl rfl
/-! ## the law's draws -/
def drawB : List S := [(.ite (.and (.op (.cmp .Eq) [(.op .ix [(.var 0), (.lit (.int 1))]), (.lit (.int 0))]) (.op (.cmp .GtE) [(.op .ix [(.var 0), (.lit (.int 2))]), (.op .len [(.op .ix [(.var 0), (.lit (.int 0))])])])) [(.seti 0 (.lit (.int 3)) (.op (.bin .Mod) [(.op .int [(.op (.bin .Add) [(.op (.bin .Mult) [(.op .ix [(.var 0), (.lit (.int 3))]), (.lit (.int 48271))]), (.lit (.int 69621))])]), (.lit (.int 2147483629))])), (.ret (.op (.bin .Mod) [(.op .int [(.op (.bin .FloorDiv) [(.op .ix [(.var 0), (.lit (.int 3))]), (.lit (.int 13))])]), (.var 1)]))] []),
  (.ite (.op (.cmp .Eq) [(.op .ix [(.var 0), (.lit (.int 1))]), (.lit (.int 0))]) [(.seti 0 (.lit (.int 1)) (.op .abs [(.op .ix [(.op .ix [(.var 0), (.lit (.int 0))]), (.op .ix [(.var 0), (.lit (.int 2))])])])), (.seti 0 (.lit (.int 2)) (.op (.bin .Add) [(.op .ix [(.var 0), (.lit (.int 2))]), (.lit (.int 1))]))] []),
  (.asg (.name 2 false) (.op (.bin .Mod) [(.op .int [(.op .ix [(.var 0), (.lit (.int 1))])]), (.var 1)])),
  (.seti 0 (.lit (.int 1)) (.op (.bin .FloorDiv) [(.op .ix [(.var 0), (.lit (.int 1))]), (.var 1)])),
  (.reto 2)]
theorem midI_of {m : Int} (h : m.natAbs < 2 ^ 64) : midI m = true := decide_eq_true (Nat.lt_trans h (by decide))
theorem divOk_of {m : Int} (h : 0 < m) (h2 : m < 1073741824) : divOk m = true := by
  unfold divOk
  rw [midI_of (Nat.lt_of_lt_of_le (show m.natAbs < 1073741824 by omega) (by decide)), Bool.and_true]
  exact decide_eq_true (by omega)
theorem mulOk_r {i j : Int} (h : smallI j = true) : mulOk i j = true := by
  unfold mulOk
  rw [h, Bool.or_true, Bool.true_or]
theorem mulOk_l {i j : Int} (h : smallI i = true) : mulOk i j = true := by
  unfold mulOk
  rw [h, Bool.true_or, Bool.true_or]
structure IsSt (d : D) : Prop where
  ex : ∃ (l : List Int) (a p s : Int), d = .lst [.lst (l.map .int), .int a, .int p, .int s] ∧ 0 ≤ p
theorem draw_ok {Φ : Nat → Fn} {ro : Bool} {d : D} {m : Int} (hm : 0 < m) (hm2 : m < 1073741824) (h : IsSt d) : ∃ v d', runD Φ ⟨[true, false], 3, ro, drawB⟩ [d, .int m] = .ok (.val (.int v), [d']) ∧ 0 ≤ v ∧ v < m ∧ IsSt d' := by
  obtain ⟨l, a, p, s, rfl, hp⟩ := h
  have hdiv : divOk m = true := divOk_of (by omega) (by omega)
  have hsm : ∀ x : Int, binf .Mult (.int x) (.int 48271) = some (.val (.int (x * 48271))) := fun x => by
    exact if_pos (mulOk_r (by decide))
  have hmod : ∀ x : Int, binf .Mod (.int x) (.int 2147483629) = some (.val (.int (x.fmod 2147483629))) := fun x => rfl
  have hmm : ∀ x : Int, binf .Mod (.int x) (.int m) = some (.val (.int (x.fmod m))) := fun x => if_pos (by omega)
  have hdm : ∀ x : Int, binf .FloorDiv (.int x) (.int m) = some (.val (.int (x.fdiv m))) := fun x => if_pos hdiv
  have hd13 : ∀ x : Int, binf .FloorDiv (.int x) (.int 13) = some (.val (.int (x.fdiv 13))) := fun x => (if_pos (show divOk 13 = true by decide) : (if divOk 13 = true then some (Slot.val (.int (x.fdiv 13))) else none) = _)
  have lo : ∀ x : Int, 0 ≤ x.fmod m := fun x => Int.fmod_nonneg_of_pos _ hm
  have hi : ∀ x : Int, x.fmod m < m := fun x => Int.fmod_lt_of_pos _ hm
  rw [runD_of rfl]
  by_cases ha : a = 0
  · subst ha
    by_cases hl : (l.length : Int) ≤ p
    · refine ⟨_, _, by simp [drawB, hl, hsm, hmod, hmm, hd13]; first | exact ⟨rfl, rfl⟩ | exact rfl, lo _, hi _, ⟨l, 0, p, _, rfl, hp⟩⟩
    · obtain ⟨x, h1, h2⟩ := atI_list (xs := l.map D.int) hp (by simpa using hl)
      rw [List.getElem?_map] at h2
      obtain ⟨y, h3, rfl⟩ := Option.map_eq_some_iff.mp h2
      refine ⟨_, _, by simp [drawB, hl, hmm, hdm, h1]; first | exact ⟨rfl, rfl⟩ | exact rfl, lo _, hi _, ⟨l, _, p + 1, s, rfl, by omega⟩⟩
  · refine ⟨_, _, by simp [drawB, ha, hmm, hdm]; first | exact ⟨rfl, rfl⟩ | exact rfl, lo _, hi _, ⟨l, _, p, s, rfl, hp⟩⟩
/-- some[_law_draw(state, len(some))] -/
def pickB (j : Nat) : List S := [(.ret (.op .ix [(.var 1), (.call j [true, false] [(.var 0), (.op .len [(.var 1)])])]))]
theorem pick_ok {Φ : Nat → Fn} {j : Nat} {ro : Bool} {d : D} {xs : List D} (hΦ : Φ j = runD Φ ⟨[true, false], 3, ro, drawB⟩ ∨ ∃ Φ', Φ j = runD Φ' ⟨[true, false], 3, ro, drawB⟩) (h0 : xs ≠ []) (h1 : xs.length < 1073741824) (h : IsSt d) :
    ∃ x d', runD Φ ⟨[true, false], 2, false, pickB j⟩ [d, .lst xs] = .ok (.val x, [d']) ∧ x ∈ xs ∧ IsSt d' := by
  have hp : 0 < xs.length := List.length_pos_iff.mpr h0
  obtain ⟨v, d', e, lo, hi, st⟩ : ∃ v d', Φ j [d, .int xs.length] = .ok (.val (.int v), [d']) ∧ 0 ≤ v ∧ v < xs.length ∧ IsSt d' := by
    rcases hΦ with e | ⟨Φ', e⟩
    · rw [e]; exact draw_ok (by omega) (by omega) h
    · rw [e]; exact draw_ok (by omega) (by omega) h
  obtain ⟨x, h1, h2⟩ := atI_list (xs := xs) lo hi
  refine ⟨x, d', ?_, List.mem_of_getElem? h2, st⟩
  rw [runD_of rfl]
  simp [pickB, e, h1]
/-- the state at the start -/
def startB : List S := [(.asg (.name 1 false) (.lit (.int 7))),
  (.for (.name 2 false) .it [(.var 0)] [(.asg (.name 1 false) (.op (.bin .Add) [(.op (.bin .Mod) [(.op .int [(.op (.bin .Add) [(.op (.bin .Mult) [(.var 1), (.lit (.int 48271))]), (.var 2)])]), (.lit (.int 2147483629))]), (.lit (.int 1))]))]),
  (.ret (.mk .lst [(.op .list [(.var 0)]), (.lit (.int 0)), (.lit (.int 0)), (.var 1)]))]
theorem start_ok {Φ : Nat → Fn} {l : List Int} : ∃ d', runD Φ ⟨[false], 3, true, startB⟩ [.rol (l.map .int)] = .ok (.own d', []) ∧ IsSt d' := by
  have hsm : ∀ x : Int, binf .Mult (.int x) (.int 48271) = some (.val (.int (x * 48271))) := fun x => by
    exact if_pos (mulOk_r (by decide))
  have hmod : ∀ x : Int, binf .Mod (.int x) (.int 2147483629) = some (.val (.int (x.fmod 2147483629))) := fun x => rfl
  have loop : ∀ (l' : List Int) (s0 : Int) (t0 : Slot), (t0 = .emp ∨ ∃ z, t0 = .val z) → ∃ s1 t1, forR (fun x' ρ => (R.ofO (assignT (.name 2 false) (.val x') ρ)).bind fun ρ1 => evSs Φ [(.asg (.name 1 false) (.op (.bin .Add) [(.op (.bin .Mod) [(.op .int [(.op (.bin .Add) [(.op (.bin .Mult) [(.var 1), (.lit (.int 48271))]), (.var 2)])]), (.lit (.int 2147483629))]), (.lit (.int 1))]))] ρ1) (l'.map .int) [.val (.rol (l.map .int)), .val (.int s0), t0] = .ok (.nx [.val (.rol (l.map .int)), .val (.int s1), t1]) := by
    intro l'
    induction l' with
    | nil => intro s0 t0 _; exact ⟨s0, t0, rfl⟩
    | cons x l' ih =>
      intro s0 t0 h0
      obtain ⟨s1, t1, e⟩ := ih ((s0 * 48271 + x).fmod 2147483629 + 1) (.val (.int x)) (.inr ⟨_, rfl⟩)
      refine ⟨s1, t1, ?_⟩
      rw [← e]
      simp [forR, hsm, hmod]
  obtain ⟨s1, t1, e⟩ := loop l 7 .emp (.inl rfl)
  refine ⟨.lst [.lst (l.map .int), .int 0, .int 0, .int s1], ?_, l, 0, 0, s1, rfl, by omega⟩
  rw [runD_of rfl]
  have e2 : evS Φ (.for (.name 2 false) .it [(.var 0)] [(.asg (.name 1 false) (.op (.bin .Add) [(.op (.bin .Mod) [(.op .int [(.op (.bin .Add) [(.op (.bin .Mult) [(.var 1), (.lit (.int 48271))]), (.var 2)])]), (.lit (.int 2147483629))]), (.lit (.int 1))]))]) [.val (.rol (l.map .int)), .val (.int 7), .emp] = .ok (.nx [.val (.rol (l.map .int)), .val (.int s1), t1]) := e
  simp [startB, e2, opf, itemsD, mkf, Line]
/-! ## the same, and shown the same -/
mutual
theorem eqv_self : ∀ d : PyData, d.canLay0 = true → PyData.eqv d d = true
  | .none, _ => rfl
  | .bool b, _ => by simp [PyData.eqv]
  | .int i, _ => by simp [PyData.eqv]
  | .str x, _ => by simp [PyData.eqv]
  | .list xs, h => by
    rw [PyData.eqv]
    exact eqvs_self xs (by simpa [PyData.canLay0] using h)
  | .tuple xs, h => by
    rw [PyData.eqv]
    exact eqvs_self xs (by simpa [PyData.canLay0] using h)
  | .dict _, h => by simp [PyData.canLay0] at h
theorem eqvs_self : ∀ xs : List PyData, PyData.canLayAll0 xs = true → PyData.eqvAll xs xs = true
  | [], _ => rfl
  | x :: xs, h => by
    have h' : x.canLay0 = true ∧ PyData.canLayAll0 xs = true := by simpa [PyData.canLayAll0] using h
    rw [PyData.eqvAll, eqv_self x h'.1, eqvs_self xs h'.2]; rfl
end
theorem reprOk_of {d : D} (h : reprOk d = true) : d.okd = true := by
  unfold reprOk at h
  simp only [Bool.and_eq_true] at h
  exact h.1.1
theorem eqv_okd {d : D} (h : d.okd = true) : d.eqv d = true := by
  unfold D.okd at h
  rw [Bool.and_eq_true] at h
  exact eqv_self _ (SeqAt.canLay_of_shaped h.2)
def sameB : List S := [(.ret (.and (.op (.cmp .Eq) [(.var 0), (.var 1)]) (.op (.cmp .Eq) [(.op .repr [(.var 0)]), (.op .repr [(.var 1)])])))]
theorem cmp_same {d : D} (h : d.okd = true) : cmpf .Eq d d = some true := by
  have gen : (if (d.okd && d.okd) = true then some (d.eqv d) else none) = some true := by
    rw [h, eqv_okd h]; rfl
  cases d with
  | str s => show some (decide (s = s)) = some true; simp
  | _ => exact gen
theorem same_ok {Φ : Nat → Fn} {d : D} (h : reprOk d = true) : runD Φ ⟨[false, false], 2, false, sameB⟩ [d, d] = .ok (.val (.bl true), []) := by
  have h1 := cmp_same (reprOk_of h)
  have h2 : opf .repr [d] = some (.val (.str d.py.shown)) := if_pos h
  rw [runD_of rfl]
  simp [sameB, h1, h2]
end DL
namespace DL
open PySem L2
/-! ## how long a text shows it -/
mutual
def wid : PyData → Nat
  | .none => 4
  | .bool _ => 5
  | .int _ => 21
  | .str x => 10 * x.length + 2
  | .list xs => wids xs + 3
  | .tuple xs => wids xs + 3
  | .dict _ => 0
def wids : List PyData → Nat
  | [] => 0
  | x :: xs => wid x + 2 + wids xs
end
mutual
def nice : PyData → Bool
  | .none => true
  | .bool _ => true
  | .int i => decide (i.natAbs < 10 ^ 20)
  | .str x => PyData.strOk x
  | .list xs => nices xs
  | .tuple xs => nices xs
  | .dict _ => false
def nices : List PyData → Bool
  | [] => true
  | x :: xs => nice x && nices xs
end
mutual
theorem nice_lay : ∀ d : PyData, nice d = true → d.canLay0 = true
  | .none, _ => rfl
  | .bool _, _ => rfl
  | .int _, _ => rfl
  | .str x, h => by simpa [PyData.canLay0, nice] using h
  | .list xs, h => by
    rw [PyData.canLay0]; exact nices_lay xs (by simpa [nice] using h)
  | .tuple xs, h => by
    rw [PyData.canLay0]; exact nices_lay xs (by simpa [nice] using h)
  | .dict _, h => by simp [nice] at h
theorem nices_lay : ∀ xs : List PyData, nices xs = true → PyData.canLayAll0 xs = true
  | [], _ => rfl
  | x :: xs, h => by
    have h' : nice x = true ∧ nices xs = true := by simpa [nices] using h
    rw [PyData.canLayAll0, nice_lay x h'.1, nices_lay xs h'.2]; rfl
end
mutual
theorem nice_show : ∀ d : PyData, nice d = true → d.showable = true
  | .none, _ => rfl
  | .bool _, _ => rfl
  | .int i, h => by
    have h1 : i.natAbs < 10 ^ 20 := by simpa [nice] using h
    have h2 : i.natAbs < 2 ^ 67 := Nat.lt_trans h1 (by decide)
    simp only [PyData.showable, decide_eq_true_eq]
    by_cases h0 : i.natAbs = 0
    · rw [h0]; decide
    · exact Nat.lt_trans ((Nat.log2_lt h0).mpr h2) (by decide)
  | .str x, h => rfl
  | .list xs, h => by
    rw [PyData.showable]; exact nices_show xs (by simpa [nice] using h)
  | .tuple xs, h => by
    rw [PyData.showable]; exact nices_show xs (by simpa [nice] using h)
  | .dict _, h => by simp [nice] at h
theorem nices_show : ∀ xs : List PyData, nices xs = true → PyData.showableAll xs = true
  | [], _ => rfl
  | x :: xs, h => by
    have h' : nice x = true ∧ nices xs = true := by simpa [nices] using h
    rw [PyData.showableAll, nice_show x h'.1, nices_show xs h'.2]; rfl
end
theorem from_len : ∀ (ts : List Str) (k : Nat) (acc : Str), (textFrom k acc ts).length ≤ acc.length + piled ts
  | [], k, acc => by simp [textFrom, piled]
  | t :: ts, k, acc => by
    have ih := from_len ts (k + 1) (acc ++ (if k > 0 then ", " else "" : String) ++ t)
    rw [strLen_append, strLen_append] at ih
    have e : ((if k > 0 then ", " else "" : String) : Str).length ≤ 2 := by split <;> decide
    show (textFrom (k + 1) _ ts).length ≤ _
    rw [piled_cons]
    omega
mutual
theorem shown_le : ∀ d : PyData, nice d = true → d.shown.length ≤ wid d
  | .none, _ => by decide
  | .bool b, _ => by cases b <;> decide
  | .int i, h => by
    have h1 : i.natAbs < 10 ^ 20 := by simpa [nice] using h
    have := int_text_length_le10 (k := 20) (by decide) h1
    show (Str.ofString (toString i)).length ≤ 21
    rw [ofString_length]; exact this
  | .str x, h => by
    have hx : PyData.strOk x = true := by simpa [nice] using h
    refine StrLaws.reprText_len x fun c hc => ?_
    have hc' : c ∈ x.cps := by simpa using hc
    obtain ⟨i, hi, e⟩ := Array.getElem_of_mem hc'
    have := (Array.all_eq_true (p := fun c => decide (c < 0x110000))).mp hx i hi
    rw [e] at this
    have h2 : c < 0x110000 := of_decide_eq_true this
    omega
  | .list xs, h => by
    have ih := showns_le xs (by simpa [nice] using h)
    show (listText (PyData.shownAll xs)).length ≤ wids xs + 3
    unfold listText
    rw [strLen_append]
    have := from_len (PyData.shownAll xs) 0 "["
    have e1 : (("[" : String) : Str).length = 1 := rfl
    have e2 : (("]" : String) : Str).length = 1 := rfl
    omega
  | .tuple xs, h => by
    have ih := showns_le xs (by simpa [nice] using h)
    show (tupleText (PyData.shownAll xs)).length ≤ wids xs + 3
    unfold tupleText
    rw [strLen_append, strLen_append]
    have e1 : (("(" : String) : Str).length = 1 := rfl
    have e2 : ((if (PyData.shownAll xs).length == 1 then ",)" else ")" : String) : Str).length ≤ 2 := by split <;> decide
    by_cases h0 : PyData.shownAll xs = []
    · have e3 : (Str.join ", " (PyData.shownAll xs)).length = 0 := by rw [h0]; rfl
      omega
    · have := join_length_add _ h0
      omega
  | .dict _, h => by simp [nice] at h
theorem showns_le : ∀ xs : List PyData, nices xs = true → piled (PyData.shownAll xs) ≤ wids xs
  | [], _ => Nat.le_refl 0
  | x :: xs, h => by
    have h' : nice x = true ∧ nices xs = true := by simpa [nices] using h
    rw [PyData.shownAll, piled_cons, wids]
    have h1 := shown_le x h'.1
    have h2 := showns_le xs h'.2
    omega
end
theorem reprOk_by {d : D} (hp : d.pure = true) (hn : nice d.py = true) (hd : d.py.depth ≤ 64) (hw : wid d.py ≤ Line) : reprOk d = true := by
  unfold reprOk D.okd SeqAt.shaped
  rw [hp, nice_lay _ hn, nice_show _ hn]
  have := shown_le _ hn
  simp only [Bool.true_and, Bool.and_eq_true, decide_eq_true_eq]
  exact ⟨⟨hd, trivial⟩, by omega⟩
/-! ## kinds -/
theorem kit_non_int : kitB "NoneType" "int" = some false := by decide +kernel
@[simp] theorem isi_non_int : opf (.isi "int") [.non] = some (.val (.bl false)) := by show b1 (kitB "NoneType" "int") = _; rw [kit_non_int]; rfl
theorem kit_non_bool : kitB "NoneType" "bool" = some false := by decide +kernel
@[simp] theorem isi_non_bool : opf (.isi "bool") [.non] = some (.val (.bl false)) := by show b1 (kitB "NoneType" "bool") = _; rw [kit_non_bool]; rfl
theorem kit_non_str : kitB "NoneType" "str" = some false := by decide +kernel
@[simp] theorem isi_non_str : opf (.isi "str") [.non] = some (.val (.bl false)) := by show b1 (kitB "NoneType" "str") = _; rw [kit_non_str]; rfl
theorem kit_non_tuple : kitB "NoneType" "tuple" = some false := by decide +kernel
@[simp] theorem isi_non_tuple : opf (.isi "tuple") [.non] = some (.val (.bl false)) := by show b1 (kitB "NoneType" "tuple") = _; rw [kit_non_tuple]; rfl
theorem kit_non_list : kitB "NoneType" "list" = some false := by decide +kernel
@[simp] theorem isi_non_list : opf (.isi "list") [.non] = some (.val (.bl false)) := by show b1 (kitB "NoneType" "list") = _; rw [kit_non_list]; rfl
theorem kit_bl_int : kitB "bool" "int" = some true := by decide +kernel
@[simp] theorem isi_bl_int {b : Bool} : opf (.isi "int") [.bl b] = some (.val (.bl true)) := by show b1 (kitB "bool" "int") = _; rw [kit_bl_int]; rfl
theorem kit_bl_bool : kitB "bool" "bool" = some true := by decide +kernel
@[simp] theorem isi_bl_bool {b : Bool} : opf (.isi "bool") [.bl b] = some (.val (.bl true)) := by show b1 (kitB "bool" "bool") = _; rw [kit_bl_bool]; rfl
theorem kit_bl_str : kitB "bool" "str" = some false := by decide +kernel
@[simp] theorem isi_bl_str {b : Bool} : opf (.isi "str") [.bl b] = some (.val (.bl false)) := by show b1 (kitB "bool" "str") = _; rw [kit_bl_str]; rfl
theorem kit_bl_tuple : kitB "bool" "tuple" = some false := by decide +kernel
@[simp] theorem isi_bl_tuple {b : Bool} : opf (.isi "tuple") [.bl b] = some (.val (.bl false)) := by show b1 (kitB "bool" "tuple") = _; rw [kit_bl_tuple]; rfl
theorem kit_bl_list : kitB "bool" "list" = some false := by decide +kernel
@[simp] theorem isi_bl_list {b : Bool} : opf (.isi "list") [.bl b] = some (.val (.bl false)) := by show b1 (kitB "bool" "list") = _; rw [kit_bl_list]; rfl
theorem kit_int_int : kitB "int" "int" = some true := by decide +kernel
@[simp] theorem isi_int_int {i : Int} : opf (.isi "int") [.int i] = some (.val (.bl true)) := by show b1 (kitB "int" "int") = _; rw [kit_int_int]; rfl
theorem kit_int_bool : kitB "int" "bool" = some false := by decide +kernel
@[simp] theorem isi_int_bool {i : Int} : opf (.isi "bool") [.int i] = some (.val (.bl false)) := by show b1 (kitB "int" "bool") = _; rw [kit_int_bool]; rfl
theorem kit_int_str : kitB "int" "str" = some false := by decide +kernel
@[simp] theorem isi_int_str {i : Int} : opf (.isi "str") [.int i] = some (.val (.bl false)) := by show b1 (kitB "int" "str") = _; rw [kit_int_str]; rfl
theorem kit_int_tuple : kitB "int" "tuple" = some false := by decide +kernel
@[simp] theorem isi_int_tuple {i : Int} : opf (.isi "tuple") [.int i] = some (.val (.bl false)) := by show b1 (kitB "int" "tuple") = _; rw [kit_int_tuple]; rfl
theorem kit_int_list : kitB "int" "list" = some false := by decide +kernel
@[simp] theorem isi_int_list {i : Int} : opf (.isi "list") [.int i] = some (.val (.bl false)) := by show b1 (kitB "int" "list") = _; rw [kit_int_list]; rfl
theorem kit_str_int : kitB "str" "int" = some false := by decide +kernel
@[simp] theorem isi_str_int {s : Str} : opf (.isi "int") [.str s] = some (.val (.bl false)) := by show b1 (kitB "str" "int") = _; rw [kit_str_int]; rfl
theorem kit_str_bool : kitB "str" "bool" = some false := by decide +kernel
@[simp] theorem isi_str_bool {s : Str} : opf (.isi "bool") [.str s] = some (.val (.bl false)) := by show b1 (kitB "str" "bool") = _; rw [kit_str_bool]; rfl
theorem kit_str_str : kitB "str" "str" = some true := by decide +kernel
@[simp] theorem isi_str_str {s : Str} : opf (.isi "str") [.str s] = some (.val (.bl true)) := by show b1 (kitB "str" "str") = _; rw [kit_str_str]; rfl
theorem kit_str_tuple : kitB "str" "tuple" = some false := by decide +kernel
@[simp] theorem isi_str_tuple {s : Str} : opf (.isi "tuple") [.str s] = some (.val (.bl false)) := by show b1 (kitB "str" "tuple") = _; rw [kit_str_tuple]; rfl
theorem kit_str_list : kitB "str" "list" = some false := by decide +kernel
@[simp] theorem isi_str_list {s : Str} : opf (.isi "list") [.str s] = some (.val (.bl false)) := by show b1 (kitB "str" "list") = _; rw [kit_str_list]; rfl
theorem kit_tup_int : kitB "tuple" "int" = some false := by decide +kernel
@[simp] theorem isi_tup_int {xs : List D} : opf (.isi "int") [.tup xs] = some (.val (.bl false)) := by show b1 (kitB "tuple" "int") = _; rw [kit_tup_int]; rfl
theorem kit_tup_bool : kitB "tuple" "bool" = some false := by decide +kernel
@[simp] theorem isi_tup_bool {xs : List D} : opf (.isi "bool") [.tup xs] = some (.val (.bl false)) := by show b1 (kitB "tuple" "bool") = _; rw [kit_tup_bool]; rfl
theorem kit_tup_str : kitB "tuple" "str" = some false := by decide +kernel
@[simp] theorem isi_tup_str {xs : List D} : opf (.isi "str") [.tup xs] = some (.val (.bl false)) := by show b1 (kitB "tuple" "str") = _; rw [kit_tup_str]; rfl
theorem kit_tup_tuple : kitB "tuple" "tuple" = some true := by decide +kernel
@[simp] theorem isi_tup_tuple {xs : List D} : opf (.isi "tuple") [.tup xs] = some (.val (.bl true)) := by show b1 (kitB "tuple" "tuple") = _; rw [kit_tup_tuple]; rfl
theorem kit_tup_list : kitB "tuple" "list" = some false := by decide +kernel
@[simp] theorem isi_tup_list {xs : List D} : opf (.isi "list") [.tup xs] = some (.val (.bl false)) := by show b1 (kitB "tuple" "list") = _; rw [kit_tup_list]; rfl
theorem kit_lst_int : kitB "list" "int" = some false := by decide +kernel
@[simp] theorem isi_lst_int {xs : List D} : opf (.isi "int") [.lst xs] = some (.val (.bl false)) := by show b1 (kitB "list" "int") = _; rw [kit_lst_int]; rfl
theorem kit_lst_bool : kitB "list" "bool" = some false := by decide +kernel
@[simp] theorem isi_lst_bool {xs : List D} : opf (.isi "bool") [.lst xs] = some (.val (.bl false)) := by show b1 (kitB "list" "bool") = _; rw [kit_lst_bool]; rfl
theorem kit_lst_str : kitB "list" "str" = some false := by decide +kernel
@[simp] theorem isi_lst_str {xs : List D} : opf (.isi "str") [.lst xs] = some (.val (.bl false)) := by show b1 (kitB "list" "str") = _; rw [kit_lst_str]; rfl
theorem kit_lst_tuple : kitB "list" "tuple" = some false := by decide +kernel
@[simp] theorem isi_lst_tuple {xs : List D} : opf (.isi "tuple") [.lst xs] = some (.val (.bl false)) := by show b1 (kitB "list" "tuple") = _; rw [kit_lst_tuple]; rfl
theorem kit_lst_list : kitB "list" "list" = some true := by decide +kernel
@[simp] theorem isi_lst_list {xs : List D} : opf (.isi "list") [.lst xs] = some (.val (.bl true)) := by show b1 (kitB "list" "list") = _; rw [kit_lst_list]; rfl
/-! ## loops -/
theorem lc_step {vs : List Nat} {t : T} {f : Sts → R Sts (Bool × Sts)} {g : Sts → R Sts (D × Sts)} {x : D} {xs acc : List D} {ρ : Sts} : lcLoop vs t f g (x :: xs) acc ρ = (R.ofO (assignT t (.val x) ρ)).bind fun ρ1 => (f ρ1).bind fun p =>
      if p.1 then (g p.2).bind fun q => if acc.length < Line then lcLoop vs t f g xs (acc ++ [q.1]) (wipeE q.2 vs) else .bad
      else lcLoop vs t f g xs acc (wipeE p.2 vs) := rfl
/-- a comprehension that changes nothing -/
theorem lc_map {vs : List Nat} {t : T} {f : Sts → R Sts (Bool × Sts)} {g : Sts → R Sts (D × Sts)} {ρ : Sts} (p : D → Bool) (h : D → D) : ∀ (xs acc : List D),
    (∀ x ∈ xs, ∃ ρ1, assignT t (.val x) ρ = some ρ1 ∧ f ρ1 = .ok (p x, ρ1) ∧ (p x = true → g ρ1 = .ok (h x, ρ1)) ∧ wipeE ρ1 vs = ρ) → acc.length + xs.length ≤ Line → lcLoop vs t f g xs acc ρ = .ok (acc ++ (xs.filter p).map h, ρ)
  | [], acc, _, _ => by simp
  | x :: xs, acc, hs, hl => by
    obtain ⟨ρ1, e1, e2, e3, e4⟩ := hs x List.mem_cons_self
    have rest := fun y hy => hs y (List.mem_cons_of_mem _ hy)
    rw [List.length_cons] at hl
    rw [lc_step, e1, R.ofO_some, R.bind_ok, e2, R.bind_ok]
    cases hp : p x with
    | true =>
      rw [if_pos rfl, e3 hp, R.bind_ok, if_pos (by omega), e4, lc_map p h xs _ rest (by simp; omega), List.filter_cons_of_pos hp]
      simp
    | false =>
      rw [if_neg (by simp), e4, lc_map p h xs acc rest (by omega), List.filter_cons_of_neg (by simp [hp])]
/-- a comprehension that may change what I speaks of -/
theorem lc_any {vs : List Nat} {t : T} {f : Sts → R Sts (Bool × Sts)} {g : Sts → R Sts (D × Sts)} (I : Sts → Prop) (Q : D → Prop) : ∀ (xs acc : List D) (ρ : Sts),
    (∀ x ∈ xs, ∀ ρ, I ρ → ∃ ρ1 b ρ2, assignT t (.val x) ρ = some ρ1 ∧ f ρ1 = .ok (b, ρ2) ∧ (b = false → I (wipeE ρ2 vs)) ∧ (b = true → ∃ d ρ3, g ρ2 = .ok (d, ρ3) ∧ Q d ∧ I (wipeE ρ3 vs))) → I ρ → acc.length + xs.length ≤ Line →
      ∃ out ρ', lcLoop vs t f g xs acc ρ = .ok (acc ++ out, ρ') ∧ I ρ' ∧ (∀ d ∈ out, Q d) ∧ out.length ≤ xs.length
  | [], acc, ρ, _, hI, _ => ⟨[], ρ, by simp, hI, by simp, Nat.le_refl _⟩
  | x :: xs, acc, ρ, hs, hI, hl => by
    obtain ⟨ρ1, b, ρ2, e1, e2, e3, e4⟩ := hs x List.mem_cons_self ρ hI
    have rest := fun y hy => hs y (List.mem_cons_of_mem _ hy)
    rw [List.length_cons] at hl
    rw [lc_step, e1, R.ofO_some, R.bind_ok, e2, R.bind_ok]
    cases b with
    | true =>
      obtain ⟨d, ρ3, e5, e6, e7⟩ := e4 rfl
      obtain ⟨out, ρ', z1, z2, z3, z4⟩ := lc_any I Q xs (acc ++ [d]) _ rest e7 (by simp; omega)
      refine ⟨d :: out, ρ', ?_, z2, ?_, by simp; omega⟩
      · rw [if_pos rfl, e5, R.bind_ok, if_pos (by omega), z1]; simp
      · intro y hy
        rcases List.mem_cons.mp hy with rfl | hy
        · exact e6
        · exact z3 y hy
    | false =>
      obtain ⟨out, ρ', z1, z2, z3, z4⟩ := lc_any I Q xs acc _ rest (e3 rfl) (by omega)
      exact ⟨out, ρ', by rw [if_neg (by simp), z1], z2, z3, by simp; omega⟩
/-- a for that comes to its end -/
theorem for_any {step : D → Sts → R Sts Out} (I : Nat → Sts → Prop) : ∀ (xs : List D) (i : Nat) (ρ : Sts), (∀ (j : Nat) (x : D) (ρ : Sts), xs[j]? = some x → I (i + j) ρ → ∃ ρ', (step x ρ = .ok (.nx ρ') ∨ step x ρ = .ok (.ct ρ')) ∧ I (i + j + 1) ρ') → I i ρ → ∃ ρ', forR step xs ρ = .ok (.nx ρ') ∧ I (i + xs.length) ρ'
  | [], i, ρ, _, hI => ⟨ρ, rfl, hI⟩
  | x :: xs, i, ρ, hs, hI => by
    obtain ⟨ρ1, e1, e2⟩ := hs 0 x ρ rfl hI
    obtain ⟨ρ', z1, z2⟩ := for_any I xs (i + 1) ρ1 (fun j y ρ hj hI => by
      have := hs (j + 1) y ρ (by simpa using hj) (by rw [show i + (j + 1) = i + 1 + j by omega]; exact hI)
      rw [show i + (j + 1) + 1 = i + 1 + j + 1 by omega] at this
      exact this) e2
    refine ⟨ρ', ?_, by rw [List.length_cons, show i + (xs.length + 1) = i + 1 + xs.length by omega]; exact z2⟩
    rcases e1 with e1 | e1 <;> (unfold forR; rw [e1]; exact z1)
@[simp] theorem wipe_nil {ρ : Sts} : wipeE ρ [] = ρ := Eq.trans rfl rfl
@[simp] theorem wipe_cons {ρ : Sts} {v : Nat} {vs : List Nat} : wipeE ρ (v :: vs) = (wipeE ρ vs).set v .emp := Eq.trans rfl rfl
@[simp] theorem back_nil {ρ0 ρ : Sts} : backE ρ0 ρ [] = ρ := Eq.trans rfl rfl
@[simp] theorem back_cons {ρ0 ρ : Sts} {v : Nat} {vs : List Nat} : backE ρ0 ρ (v :: vs) = (backE ρ0 ρ vs).set v (ρ0.getD v .emp) := Eq.trans rfl rfl
@[simp] theorem ownAny_nil {ρ : Sts} : ownAny ρ [] = false := Eq.trans rfl rfl
@[simp] theorem ownAny_cons {ρ : Sts} {v : Nat} {vs : List Nat} : ownAny ρ (v :: vs) = (isOwn ρ v || ownAny ρ vs) := Eq.trans rfl rfl
@[simp] theorem src_itL {xs : List D} : srcf .it [.lst xs] = some xs := Eq.trans rfl rfl
@[simp] theorem src_itT {xs : List D} : srcf .it [.tup xs] = some xs := Eq.trans rfl rfl
theorem src_rng {n : Nat} (h : n < 2 ^ 62) : srcf .rng [.int n] = some ((List.range n).map fun k => D.int (k : Nat)) := by
  show rngf 0 n = _
  unfold rngf
  rw [if_pos (by omega)]
  simp
theorem src_rng2 {i j : Int} (h : i.natAbs < 2 ^ 62 ∧ j.natAbs < 2 ^ 62) : srcf .rng [.int i, .int j] = some ((List.range (j - i).toNat).map fun k => D.int (i + (k : Nat))) := if_pos h
@[simp] theorem opf_tupL {xs : List D} : opf .tuple [.lst xs] = some (.val (.tup xs)) := Eq.trans rfl rfl
@[simp] theorem opf_tupT {xs : List D} : opf .tuple [.tup xs] = some (.val (.tup xs)) := Eq.trans rfl rfl
theorem mkf_lst {ds : List D} (h : ds.length ≤ Line) : mkf .lst ds = some (.own (.lst ds)) := if_pos h
theorem mkf_tup {ds : List D} (h : ds.length ≤ Line) : mkf .tup ds = some (.val (.tup ds)) := if_pos h
theorem muf_app {xs : List D} {y : D} (h : xs.length < Line) : muf .append (.lst xs) [y] = some (.non, .lst (xs ++ [y])) := if_pos h
theorem muf_ext {xs ys : List D} (h : xs.length + ys.length ≤ Line) : muf .extend (.lst xs) [.lst ys] = some (.non, .lst (xs ++ ys)) := if_pos h
/-- .. at once -/
theorem ev_lcm {Φ : Nat → Fn} {vs : List Nat} {t : T} {k : Sk} {src ifs : List E} {elt : E} {ρ ρ1 : Sts} {ds items : List D} (p : D → Bool) (h : D → D) (hs : evVs Φ src ρ = .ok (ds, ρ1)) (hi : srcf k ds = some items) (ho : ownAny ρ1 vs = false)
    (st : ∀ x ∈ items, ∃ ρ2, assignT t (.val x) (wipeE ρ1 vs) = some ρ2 ∧ evTs Φ ifs ρ2 = .ok (p x, ρ2) ∧ (p x = true → rel (ev Φ elt ρ2) = .ok (h x, ρ2)) ∧ wipeE ρ2 vs = wipeE ρ1 vs) (hl : items.length ≤ Line) :
    ev Φ (.lc vs t k src ifs elt) ρ = .ok (.own (.lst ((items.filter p).map h)), backE ρ1 (wipeE ρ1 vs) vs) := by
  show ((evVs Φ src ρ).bind fun p => match srcf k p.1 with
    | some items => if ownAny p.2 vs then .bad else
        (noExc (lcLoop vs t (fun ρ => evTs Φ ifs ρ) (fun ρ => rel (ev Φ elt ρ)) items [] (wipeE p.2 vs))).map fun q => (Slot.own (.lst q.1), backE p.2 q.2 vs)
    | none => .bad) = _
  rw [hs, R.bind_ok]
  dsimp only
  rw [hi]
  dsimp only
  rw [ho, if_neg Bool.false_ne_true, lc_map p h items [] st (by simpa using hl)]
  rfl
theorem ev_lca {Φ : Nat → Fn} {vs : List Nat} {t : T} {k : Sk} {src ifs : List E} {elt : E} {ρ ρ1 : Sts} {ds items : List D} (I : Sts → Prop) (Q : D → Prop) (hs : evVs Φ src ρ = .ok (ds, ρ1)) (hi : srcf k ds = some items) (ho : ownAny ρ1 vs = false)
    (st : ∀ x ∈ items, ∀ ρ, I ρ → ∃ ρ1 b ρ2, assignT t (.val x) ρ = some ρ1 ∧ evTs Φ ifs ρ1 = .ok (b, ρ2) ∧ (b = false → I (wipeE ρ2 vs)) ∧ (b = true → ∃ d ρ3, rel (ev Φ elt ρ2) = .ok (d, ρ3) ∧ Q d ∧ I (wipeE ρ3 vs))) (h0 : I (wipeE ρ1 vs)) (hl : items.length ≤ Line) :
    ∃ out ρ', ev Φ (.lc vs t k src ifs elt) ρ = .ok (.own (.lst out), backE ρ1 ρ' vs) ∧ I ρ' ∧ (∀ d ∈ out, Q d) ∧ out.length ≤ items.length := by
  obtain ⟨out, ρ', e1, e2, e3, e4⟩ := lc_any (vs := vs) (t := t) (f := fun ρ => evTs Φ ifs ρ) (g := fun ρ => rel (ev Φ elt ρ)) I Q items [] _ st h0 (by simpa using hl)
  refine ⟨out, ρ', ?_, e2, e3, e4⟩
  show ((evVs Φ src ρ).bind fun p => match srcf k p.1 with
    | some items => if ownAny p.2 vs then .bad else
        (noExc (lcLoop vs t (fun ρ => evTs Φ ifs ρ) (fun ρ => rel (ev Φ elt ρ)) items [] (wipeE p.2 vs))).map fun q => (Slot.own (.lst q.1), backE p.2 q.2 vs)
    | none => .bad) = _
  rw [hs, R.bind_ok]
  dsimp only
  rw [hi]
  dsimp only
  rw [ho, if_neg Bool.false_ne_true, e1]
  rfl
theorem evS_fora {Φ : Nat → Fn} {t : T} {k : Sk} {src : List E} {b : List S} {ρ ρ1 : Sts} {ds items : List D} (I : Nat → Sts → Prop) (hs : evVs Φ src ρ = .ok (ds, ρ1)) (hi : srcf k ds = some items)
    (st : ∀ (j : Nat) (x : D) (ρ : Sts), items[j]? = some x → I j ρ → ∃ ρ2 ρ', assignT t (.val x) ρ = some ρ2 ∧ (evSs Φ b ρ2 = .ok (.nx ρ') ∨ evSs Φ b ρ2 = .ok (.ct ρ')) ∧ I (j + 1) ρ') (h0 : I 0 ρ1) : ∃ ρ', evS Φ (.for t k src b) ρ = .ok (.nx ρ') ∧ I items.length ρ' := by
  obtain ⟨ρ', e1, e2⟩ := for_any (step := fun x ρ => (R.ofO (assignT t (.val x) ρ)).bind fun ρ1 => evSs Φ b ρ1) I items 0 ρ1 (fun j x ρ hj hI => by
    rw [Nat.zero_add] at hI
    obtain ⟨ρ2, ρ', q1, q2, q3⟩ := st j x ρ hj hI
    refine ⟨ρ', ?_, by rw [Nat.zero_add]; exact q3⟩
    rw [q1, R.ofO_some, R.bind_ok]
    exact q2) h0
  rw [Nat.zero_add] at e2
  refine ⟨ρ', ?_, e2⟩
  show ((evVs Φ src ρ).bind fun p => match srcf k p.1 with
    | some items => forR (fun x ρ => (R.ofO (assignT t (.val x) ρ)).bind fun ρ1 => evSs Φ b ρ1) items p.2
    | none => .bad) = _
  rw [hs, R.bind_ok]
  dsimp only
  rw [hi]
  exact e1
/-- a def's end -/
theorem runD_rt {Φ : Nat → Fn} {d : Def} {ds cs : List D} {t : Slot} {ρ : Sts} (hl : ds.length = d.m.length) (h : evSs Φ d.body (entry d.m ds ++ List.replicate (d.n - d.m.length) .emp) = .ok (.rt t ρ)) (ho : outIos d.m ρ = some cs) {r : Slot} (hr : (if d.ro then t else .val t.d) = r) : runD Φ d ds = .ok (r, cs) := by
  rw [runD_of hl, h]
  show outR d.ro d.m t ρ = _
  rw [outR_def, ho, hr]; rfl
theorem runD_nx {Φ : Nat → Fn} {d : Def} {ds cs : List D} {ρ : Sts} (hl : ds.length = d.m.length) (h : evSs Φ d.body (entry d.m ds ++ List.replicate (d.n - d.m.length) .emp) = .ok (.nx ρ)) (ho : outIos d.m ρ = some cs) : runD Φ d ds = .ok (.val .non, cs) := by
  rw [runD_of hl, h]
  show outR d.ro d.m (.val .non) ρ = _
  rw [outR_def, ho]
  cases d.ro <;> rfl
/-- a while that comes to its end -/
theorem whl_any {Φ : Nat → Fn} {t : E} {b : List S} (I : Nat → Sts → Prop) (Q : Sts → Prop)
    (turn : ∀ m ρ, I m ρ → (∃ ρ1, tru (rel (ev Φ t ρ)) = .ok (false, ρ1) ∧ Q ρ1) ∨ (∃ ρ1 ρ2 m', tru (rel (ev Φ t ρ)) = .ok (true, ρ1) ∧ (evSs Φ b ρ1 = .ok (.nx ρ2) ∨ evSs Φ b ρ1 = .ok (.ct ρ2)) ∧ m' < m ∧ I m' ρ2)) :
    ∀ (f m : Nat) (ρ : Sts), I m ρ → m < f → ∃ ρ', whlR (fun ρ => tru (rel (ev Φ t ρ))) (fun ρ => evSs Φ b ρ) f ρ = .ok (.nx ρ') ∧ Q ρ'
  | 0, m, ρ, _, h => absurd h (Nat.not_lt_zero _)
  | f + 1, m, ρ, hI, h => by
    rcases turn m ρ hI with ⟨ρ1, e1, q⟩ | ⟨ρ1, ρ2, m', e1, e2, hm, hI'⟩
    · refine ⟨ρ1, ?_, q⟩
      unfold whlR
      rw [e1]; rfl
    · obtain ⟨ρ', e3, q⟩ := whl_any I Q turn f m' ρ2 hI' (by omega)
      refine ⟨ρ', ?_, q⟩
      unfold whlR
      rw [e1, R.bind_ok]
      dsimp only
      rw [if_pos rfl]
      rcases e2 with e2 | e2 <;> (rw [e2]; exact e3)
theorem evS_whla {Φ : Nat → Fn} {t : E} {b : List S} {ρ : Sts} {m : Nat} (I : Nat → Sts → Prop) (Q : Sts → Prop)
    (turn : ∀ m ρ, I m ρ → (∃ ρ1, tru (rel (ev Φ t ρ)) = .ok (false, ρ1) ∧ Q ρ1) ∨ (∃ ρ1 ρ2 m', tru (rel (ev Φ t ρ)) = .ok (true, ρ1) ∧ (evSs Φ b ρ1 = .ok (.nx ρ2) ∨ evSs Φ b ρ1 = .ok (.ct ρ2)) ∧ m' < m ∧ I m' ρ2)) (h0 : I m ρ) (hm : m < fuel) : ∃ ρ', evS Φ (.whl t b) ρ = .ok (.nx ρ') ∧ Q ρ' :=
  whl_any I Q turn fuel m ρ h0 hm
theorem lt_fuel {m : Nat} (h : m ≤ 1000000) : m < fuel := Nat.lt_of_le_of_lt h (by unfold fuel; decide)
end DL
namespace W
open PySem DL L2
def tp (i : Nat) : Stmt := PySem.Challenge.pw_setinlines_k23_papers_and_arguments_of_s.main.body.getD i (.Pass ⟨0, 0, 0, 0⟩)
def fns : List FnS := [⟨"is_integer", [false]⟩, ⟨"check_stops", [false]⟩, ⟨"check_fields", [false]⟩, ⟨"wanted", [false, false]⟩, ⟨"set_fields", [false, false]⟩, ⟨"shifts", [false, false]⟩, ⟨"is_clean", [false, false]⟩, ⟨"accept_fields", [false, false, false]⟩, ⟨"least_stops", [false, false]⟩, ⟨"sign_stop", [false]⟩, ⟨"leaders", [false, false, false]⟩, ⟨"_law_start", [false]⟩, ⟨"_law_draw", [true, false]⟩, ⟨"_law_pick", [true, false]⟩, ⟨"_law_same", [false, false]⟩, ⟨"_law_asked", [false, false]⟩, ⟨"_law_word", [false]⟩, ⟨"_law_whole", [false, false, false]⟩, ⟨"_law_bent", [true, false, false]⟩, ⟨"_law_stops", [true, false, false]⟩, ⟨"_law_fields", [true, false, false]⟩, ⟨"_law_wanted", [false, false]⟩, ⟨"_law_set", [false, false]⟩, ⟨"_law_fields_due", [false, false, false]⟩, ⟨"_law_papers_hold", [true]⟩, ⟨"_law_are_stops", [false]⟩, ⟨"_law_are_fields", [false]⟩, ⟨"_law_are_rows", [false]⟩, ⟨"_law_due", [false, false]⟩, ⟨"_law_told", [false, false]⟩, ⟨"law", [false]⟩]
def cns : List (Str × D) := [("MAX_WIDTH", .int 100000), ("MAX_STOPS", .int 20), ("WAYS", .tup [.str "left", .str "right", .str "middle", .str "sign"])]
def bns : List Str := ["len", "int", "abs", "all", "max", "tuple", "list", "repr", "isinstance", "bool", "str", "range", "zip", "sorted", "dict"]
def dns : List (Str × List (Str × Int)) := []
def xcs : List (Str × Str) := [("ArgumentError", "reason"), ("PaperError", "reason")]
def whs : List (Str × Wd) := [("ItemError", .pre "item "), ("ArgumentError", .pre "argument "), ("PaperError", .pre "paper "), ("TextError", .self)]
def wdd : Option (Str × List (Str × Wd)) := some ("_law_word", whs)
def cx (i : Nat) (N M : List Str) : DL.Ctx := { N := N, sc := defScope (tp i), fn := fun _ => true, M := M, fs := fns, cs := cns, bs := bns, ds := dns, xs := xcs, wd := wdd }
def g0 : DL.Ctx := cx 7 ["value"] []
def g1 : DL.Ctx := cx 12 ["stops", "last", "stop"] []
def g2 : DL.Ctx := cx 13 ["fields", "field", "part"] []
def g3 : DL.Ctx := cx 14 ["stop", "field", "place", "way", "width", "ahead"] []
def g4 : DL.Ctx := cx 15 ["stops", "fields", "found", "end", "used", "field", "left", "place", "number"] ["found"]
def g5 : DL.Ctx := cx 16 ["stops", "fields", "rows", "row", "field"] []
def g6 : DL.Ctx := cx 17 ["stops", "fields", "rows", "shift"] []
def g7 : DL.Ctx := cx 18 ["stops", "fields", "rows", "row", "end", "used", "field", "part"] []
def g8 : DL.Ctx := cx 19 ["rows", "gap", "many", "row", "found", "column", "width"] ["found"]
def g9 : DL.Ctx := cx 20 ["fields", "place", "width", "ahead"] []
def g10 : DL.Ctx := cx 21 ["begin", "end", "own", "first", "reason", "part", "number"] []
def g11 : DL.Ctx := cx 23 ["script", "seed", "cell"] []
def g12 : DL.Ctx := cx 24 ["state", "many", "value"] ["state"]
def g13 : DL.Ctx := cx 25 ["state", "some"] ["state"]
def g14 : DL.Ctx := cx 26 ["actual", "due"] []
def g15 : DL.Ctx := cx 27 ["way", "some", "error"] []
def g16 : DL.Ctx := { cx 28 ["error", "heads", "found"] [] with dead := true }
def g17 : DL.Ctx := cx 29 ["value", "least", "most"] []
def g18 : DL.Ctx := cx 30 ["state", "value", "depth", "at", "pick"] ["state"]
def g19 : DL.Ctx := cx 31 ["state", "many", "top", "rows", "place", "k"] ["state"]
def g20 : DL.Ctx := cx 32 ["state", "many", "top", "rows", "k", "width"] ["state"]
def g21 : DL.Ctx := cx 33 ["stop", "field"] []
def g22 : DL.Ctx := cx 34 ["stops", "fields", "field", "found", "end", "first", "place"] ["found"]
def g23 : DL.Ctx := cx 35 ["stops", "fields", "rows", "row", "k", "used", "end"] []
def g24 : DL.Ctx := cx 36 ["state", "top", "rows", "k", "stops", "fields", "some", "row"] ["state"]
def g25 : DL.Ctx := cx 37 ["stops", "last", "stop"] []
def g26 : DL.Ctx := cx 38 ["fields", "field"] []
def g27 : DL.Ctx := cx 39 ["rows", "row", "width"] []
def g28 : DL.Ctx := cx 40 ["way", "some", "bad", "stops", "fields", "rows", "gap", "begin", "end", "own", "words", "word", "right"] []
def g29 : DL.Ctx := cx 41 ["way", "some", "given", "told", "stops", "fields", "rows", "gap", "begin", "end", "own"] []
def g30 : DL.Ctx := cx 42 ["script", "state", "change", "some", "k", "way", "at", "odd"] ["state", "some"]

def b0 : List S := [(.ret (.and (.op (.isi "int") [(.var 0)]) (.ife (.op (.isi "bool") [(.var 0)]) (.lit (.bl false)) (.lit (.bl true)))))]
def b1 : List S := [(.ite (.or (.ife (.op (.isi "tuple") [(.var 0)]) (.lit (.bl false)) (.lit (.bl true))) (.ife (.chain (.lit (.int 1)) .LtE (.op .len [(.var 0)]) .LtE (.lit (.int 20))) (.lit (.bl false)) (.lit (.bl true)))) [(.raise "ArgumentError" (.lit (.str "stops")))] []),
  (.asg (.name 1 false) (.op .neg [(.lit (.int 1))])),
  (.for (.name 2 false) .it [(.var 0)] [(.ite (.or (.ife (.op (.isi "tuple") [(.var 2)]) (.lit (.bl false)) (.lit (.bl true))) (.or (.op (.cmp .NotEq) [(.op .len [(.var 2)]), (.lit (.int 2))]) (.or (.ife (.call 0 [false] [(.op .ix [(.var 2), (.lit (.int 0))])]) (.lit (.bl false)) (.lit (.bl true))) (.ife (.op (.isi "str") [(.op .ix [(.var 2), (.lit (.int 1))])]) (.lit (.bl false)) (.lit (.bl true)))))) [(.raise "ArgumentError" (.lit (.str "stops")))] []), (.ite (.or (.ife (.chain (.var 1) .Lt (.op .ix [(.var 2), (.lit (.int 0))]) .LtE (.lit (.int 100000))) (.lit (.bl false)) (.lit (.bl true))) (.op (.cmp .NotIn) [(.op .ix [(.var 2), (.lit (.int 1))]), (.lit (.tup [(.str "left"), (.str "right"), (.str "middle"), (.str "sign")]))])) [(.raise "ArgumentError" (.lit (.str "stops")))] []), (.asg (.name 1 false) (.op .ix [(.var 2), (.lit (.int 0))]))])]
def b2 : List S := [(.ite (.or (.ife (.op (.isi "tuple") [(.var 0)]) (.lit (.bl false)) (.lit (.bl true))) (.op (.cmp .Gt) [(.op .len [(.var 0)]), (.lit (.int 20))])) [(.raise "ArgumentError" (.lit (.str "fields")))] []),
  (.for (.name 1 false) .it [(.var 0)] [(.ite (.or (.ife (.op (.isi "tuple") [(.var 1)]) (.lit (.bl false)) (.lit (.bl true))) (.or (.op (.cmp .NotEq) [(.op .len [(.var 1)]), (.lit (.int 2))]) (.ife (.op .all [(.lc [2] (.name 2 false) .it [(.var 1)] [] (.call 0 [false] [(.var 2)]))]) (.lit (.bl false)) (.lit (.bl true))))) [(.raise "ArgumentError" (.lit (.str "fields")))] []), (.ite (.ife (.chain3 (.lit (.int 0)) .LtE (.op .ix [(.var 1), (.lit (.int 1))]) .LtE (.op .ix [(.var 1), (.lit (.int 0))]) .LtE (.lit (.int 100000))) (.lit (.bl false)) (.lit (.bl true))) [(.raise "ArgumentError" (.lit (.str "fields")))] [])])]
def b3 : List S := [(.asg (.tup [(.name 2 false), (.name 3 false)]) (.var 0)),
  (.asg (.tup [(.name 4 false), (.name 5 false)]) (.var 1)),
  (.ite (.op (.cmp .Eq) [(.var 3), (.lit (.str "left"))]) [(.reto 2)] []),
  (.ite (.op (.cmp .Eq) [(.var 3), (.lit (.str "right"))]) [(.ret (.op (.bin .Sub) [(.var 2), (.var 4)]))] []),
  (.ret (.ife (.op (.cmp .Eq) [(.var 3), (.lit (.str "middle"))]) (.op (.bin .Sub) [(.var 2), (.op (.bin .FloorDiv) [(.var 4), (.lit (.int 2))])]) (.op (.bin .Sub) [(.var 2), (.var 5)])))]
def b4 : List S := [(.exp (.call 1 [false] [(.var 0)])),
  (.exp (.call 2 [false] [(.var 1)])),
  (.asg (.name 2 true) (.mk .lst [])),
  (.asg (.name 3 false) (.lit (.int 0))),
  (.asg (.name 4 false) (.op .neg [(.lit (.int 1))])),
  (.for (.name 5 false) .it [(.var 1)] [(.asg (.name 6 false) (.lc [8] (.name 8 false) .rng [(.op (.bin .Add) [(.var 4), (.lit (.int 1))]), (.op .len [(.var 0)])] [(.op (.cmp .GtE) [(.op .ix [(.op .ix [(.var 0), (.var 8)]), (.lit (.int 0))]), (.var 3)])] (.var 8))), (.ite (.ife (.op .tru [(.var 6)]) (.lit (.bl false)) (.lit (.bl true))) [(.ret (.op (.bin .Add) [(.op .tuple [(.var 2)]), (.mk .tup [(.lit .non)])]))] []), (.asg (.name 4 false) (.op .ix [(.var 6), (.lit (.int 0))])), (.asg (.name 7 false) (.op .max [(.var 3), (.call 3 [false, false] [(.op .ix [(.var 0), (.var 4)]), (.var 5)])])), (.exp (.mu .append 2 [(.mk .tup [(.var 4), (.var 7)])])), (.asg (.name 3 false) (.op (.bin .Add) [(.var 7), (.op .ix [(.var 5), (.lit (.int 0))])]))]),
  (.ret (.op .tuple [(.var 2)]))]
def b5 : List S := [(.asg (.name 2 false) (.call 4 [false, false] [(.var 0), (.var 1)])),
  (.ret (.op .tuple [(.lc [3, 4] (.tup [(.name 3 false), (.name 4 false)]) .zip [(.var 2), (.var 1)] [(.op (.cmp .IsNot) [(.var 3), (.lit .non)])] (.op (.bin .Sub) [(.op .ix [(.var 3), (.lit (.int 1))]), (.call 3 [false, false] [(.op .ix [(.var 0), (.op .ix [(.var 3), (.lit (.int 0))])]), (.var 4)])]))]))]
def b6 : List S := [(.asg (.name 2 false) (.call 4 [false, false] [(.var 0), (.var 1)])),
  (.ret (.and (.op (.cmp .NotIn) [(.lit .non), (.var 2)]) (.ife (.lc [3] (.name 3 false) .it [(.call 5 [false, false] [(.var 0), (.var 1)])] [(.op (.cmp .Gt) [(.var 3), (.lit (.int 0))])] (.var 3)) (.lit (.bl false)) (.lit (.bl true)))))]
def b7 : List S := [(.exp (.call 1 [false] [(.var 0)])),
  (.exp (.call 2 [false] [(.var 1)])),
  (.ite (.or (.ife (.op (.isi "tuple") [(.var 2)]) (.lit (.bl false)) (.lit (.bl true))) (.op (.cmp .NotEq) [(.op .len [(.var 2)]), (.op .len [(.var 1)])])) [(.raise "PaperError" (.lit (.str "form")))] []),
  (.for (.name 3 false) .it [(.var 2)] [(.ite (.or (.ife (.op (.isi "tuple") [(.var 3)]) (.lit (.bl false)) (.lit (.bl true))) (.or (.op (.cmp .NotEq) [(.op .len [(.var 3)]), (.lit (.int 2))]) (.ife (.op .all [(.lc [7] (.name 7 false) .it [(.var 3)] [] (.call 0 [false] [(.var 7)]))]) (.lit (.bl false)) (.lit (.bl true))))) [(.raise "PaperError" (.lit (.str "form")))] []), (.ite (.ife (.chain (.lit (.int 0)) .LtE (.op .ix [(.var 3), (.lit (.int 0))]) .Lt (.op .len [(.var 0)])) (.lit (.bl false)) (.lit (.bl true))) [(.raise "PaperError" (.lit (.str "form")))] [])]),
  (.asg (.name 4 false) (.lit (.int 0))),
  (.asg (.name 5 false) (.op .neg [(.lit (.int 1))])),
  (.for (.tup [(.name 3 false), (.name 6 false)]) .zip [(.var 2), (.var 1)] [(.ite (.op (.cmp .LtE) [(.op .ix [(.var 3), (.lit (.int 0))]), (.var 5)]) [(.raise "PaperError" (.lit (.str "stop")))] []), (.ite (.or (.op (.cmp .Lt) [(.op .ix [(.var 3), (.lit (.int 1))]), (.var 4)]) (.op (.cmp .Lt) [(.op .ix [(.var 3), (.lit (.int 1))]), (.call 3 [false, false] [(.op .ix [(.var 0), (.op .ix [(.var 3), (.lit (.int 0))])]), (.var 6)])])) [(.raise "PaperError" (.lit (.str "place")))] []), (.par [(5, false), (4, false)] [(.op .ix [(.var 3), (.lit (.int 0))]), (.op (.bin .Add) [(.op .ix [(.var 3), (.lit (.int 1))]), (.op .ix [(.var 6), (.lit (.int 0))])])])])]
def b8 : List S := [(.ite (.or (.ife (.op (.isi "tuple") [(.var 0)]) (.lit (.bl false)) (.lit (.bl true))) (.ife (.chain (.lit (.int 1)) .LtE (.op .len [(.var 0)]) .LtE (.lit (.int 20))) (.lit (.bl false)) (.lit (.bl true)))) [(.raise "ArgumentError" (.lit (.str "rows")))] []),
  (.ite (.ife (.op .all [(.lc [3] (.name 3 false) .it [(.var 0)] [] (.op (.isi "tuple") [(.var 3)]))]) (.lit (.bl false)) (.lit (.bl true))) [(.raise "ArgumentError" (.lit (.str "rows")))] []),
  (.asg (.name 2 false) (.op .len [(.op .ix [(.var 0), (.lit (.int 0))])])),
  (.ite (.or (.ife (.chain (.lit (.int 1)) .LtE (.var 2) .LtE (.lit (.int 20))) (.lit (.bl false)) (.lit (.bl true))) (.ife (.op .all [(.lc [3] (.name 3 false) .it [(.var 0)] [] (.op (.cmp .Eq) [(.op .len [(.var 3)]), (.var 2)]))]) (.lit (.bl false)) (.lit (.bl true)))) [(.raise "ArgumentError" (.lit (.str "rows")))] []),
  (.for (.name 3 false) .it [(.var 0)] [(.ite (.ife (.op .all [(.lc [6] (.name 6 false) .it [(.var 3)] [] (.and (.call 0 [false] [(.var 6)]) (.chain (.lit (.int 0)) .LtE (.var 6) .LtE (.op (.bin .FloorDiv) [(.lit (.int 100000)), (.lit (.int 20))]))))]) (.lit (.bl false)) (.lit (.bl true))) [(.raise "ArgumentError" (.lit (.str "rows")))] [])]),
  (.ite (.or (.ife (.call 0 [false] [(.var 1)]) (.lit (.bl false)) (.lit (.bl true))) (.ife (.chain (.lit (.int 1)) .LtE (.var 1) .LtE (.lit (.int 100000))) (.lit (.bl false)) (.lit (.bl true)))) [(.raise "ArgumentError" (.lit (.str "gap")))] []),
  (.asg (.name 4 true) (.mk .lst [(.lit (.int 0))])),
  (.for (.name 5 false) .rng [(.op (.bin .Sub) [(.var 2), (.lit (.int 1))])] [(.exp (.mu .append 4 [(.op (.bin .Add) [(.op (.bin .Add) [(.op .ix [(.var 4), (.op .neg [(.lit (.int 1))])]), (.op .max [(.lc [3] (.name 3 false) .it [(.var 0)] [] (.op .ix [(.var 3), (.var 5)]))])]), (.var 1)])]))]),
  (.ret (.op .tuple [(.var 4)]))]
def b9 : List S := [(.exp (.call 2 [false] [(.var 0)])),
  (.ite (.ife (.op .tru [(.var 0)]) (.lit (.bl false)) (.lit (.bl true))) [(.ret (.mk .tup [(.lit (.int 0)), (.lit (.int 0))]))] []),
  (.asg (.name 1 false) (.op .max [(.lc [2, 3] (.tup [(.name 2 false), (.name 3 false)]) .it [(.var 0)] [] (.var 3))])),
  (.ret (.mk .tup [(.var 1), (.op (.bin .Add) [(.var 1), (.op .max [(.lc [2, 3] (.tup [(.name 2 false), (.name 3 false)]) .it [(.var 0)] [] (.op (.bin .Sub) [(.var 2), (.var 3)]))])])]))]
def b10 : List S := [(.for (.tup [(.name 4 false), (.name 5 false)]) .it [(.mk .tup [(.mk .tup [(.lit (.str "begin")), (.var 0)]), (.mk .tup [(.lit (.str "end")), (.var 1)])])] [(.ite (.or (.ife (.call 0 [false] [(.var 5)]) (.lit (.bl false)) (.lit (.bl true))) (.ife (.chain (.lit (.int 0)) .LtE (.var 5) .LtE (.lit (.int 100000))) (.lit (.bl false)) (.lit (.bl true)))) [(.raise "ArgumentError" (.var 4))] [])]),
  (.ite (.or (.ife (.call 0 [false] [(.var 2)]) (.lit (.bl false)) (.lit (.bl true))) (.ife (.chain (.lit (.int 1)) .LtE (.var 2) .LtE (.lit (.int 100000))) (.lit (.bl false)) (.lit (.bl true)))) [(.raise "ArgumentError" (.lit (.str "own")))] []),
  (.asg (.name 3 false) (.op .neg [(.op (.bin .FloorDiv) [(.op .neg [(.var 0)]), (.var 2)])])),
  (.ret (.op .tuple [(.lc [6] (.name 6 false) .rng [(.var 3), (.op .max [(.var 3), (.op (.bin .FloorDiv) [(.var 1), (.var 2)])])] [] (.op (.bin .Mult) [(.var 6), (.var 2)]))]))]
def b11 : List S := [(.asg (.name 1 false) (.lit (.int 7))),
  (.for (.name 2 false) .it [(.var 0)] [(.asg (.name 1 false) (.op (.bin .Add) [(.op (.bin .Mod) [(.op .int [(.op (.bin .Add) [(.op (.bin .Mult) [(.var 1), (.lit (.int 48271))]), (.var 2)])]), (.lit (.int 2147483629))]), (.lit (.int 1))]))]),
  (.ret (.mk .lst [(.op .list [(.var 0)]), (.lit (.int 0)), (.lit (.int 0)), (.var 1)]))]
def b12 : List S := [(.ite (.and (.op (.cmp .Eq) [(.op .ix [(.var 0), (.lit (.int 1))]), (.lit (.int 0))]) (.op (.cmp .GtE) [(.op .ix [(.var 0), (.lit (.int 2))]), (.op .len [(.op .ix [(.var 0), (.lit (.int 0))])])])) [(.seti 0 (.lit (.int 3)) (.op (.bin .Mod) [(.op .int [(.op (.bin .Add) [(.op (.bin .Mult) [(.op .ix [(.var 0), (.lit (.int 3))]), (.lit (.int 48271))]), (.lit (.int 69621))])]), (.lit (.int 2147483629))])), (.ret (.op (.bin .Mod) [(.op .int [(.op (.bin .FloorDiv) [(.op .ix [(.var 0), (.lit (.int 3))]), (.lit (.int 13))])]), (.var 1)]))] []),
  (.ite (.op (.cmp .Eq) [(.op .ix [(.var 0), (.lit (.int 1))]), (.lit (.int 0))]) [(.seti 0 (.lit (.int 1)) (.op .abs [(.op .ix [(.op .ix [(.var 0), (.lit (.int 0))]), (.op .ix [(.var 0), (.lit (.int 2))])])])), (.seti 0 (.lit (.int 2)) (.op (.bin .Add) [(.op .ix [(.var 0), (.lit (.int 2))]), (.lit (.int 1))]))] []),
  (.asg (.name 2 false) (.op (.bin .Mod) [(.op .int [(.op .ix [(.var 0), (.lit (.int 1))])]), (.var 1)])),
  (.seti 0 (.lit (.int 1)) (.op (.bin .FloorDiv) [(.op .ix [(.var 0), (.lit (.int 1))]), (.var 1)])),
  (.reto 2)]
def b13 : List S := [(.ret (.op .ix [(.var 1), (.call 12 [true, false] [(.var 0), (.op .len [(.var 1)])])]))]
def b14 : List S := [(.ret (.and (.op (.cmp .Eq) [(.var 0), (.var 1)]) (.op (.cmp .Eq) [(.op .repr [(.var 0)]), (.op .repr [(.var 1)])])))]
def b15 : List S := [(.tryw [(.ite (.op (.cmp .Lt) [(.op .len [(.var 1)]), (.lit (.int 3))]) [(.ret (.ife (.op (.cmp .Eq) [(.op .len [(.var 1)]), (.lit (.int 1))]) (.mk .lst [(.callv 0 (fnTab fns) [(.op .ix [(.var 1), (.lit (.int 0))])])]) (.mk .lst [(.callv 0 (fnTab fns) [(.op .ix [(.var 1), (.lit (.int 0))]), (.op .ix [(.var 1), (.lit (.int 1))])])])))] []), (.ite (.op (.cmp .Lt) [(.op .len [(.var 1)]), (.lit (.int 5))]) [(.ret (.ife (.op (.cmp .Eq) [(.op .len [(.var 1)]), (.lit (.int 3))]) (.mk .lst [(.callv 0 (fnTab fns) [(.op .ix [(.var 1), (.lit (.int 0))]), (.op .ix [(.var 1), (.lit (.int 1))]), (.op .ix [(.var 1), (.lit (.int 2))])])]) (.mk .lst [(.callv 0 (fnTab fns) [(.op .ix [(.var 1), (.lit (.int 0))]), (.op .ix [(.var 1), (.lit (.int 1))]), (.op .ix [(.var 1), (.lit (.int 2))]), (.op .ix [(.var 1), (.lit (.int 3))])])])))] []), (.ret (.ife (.op (.cmp .Eq) [(.op .len [(.var 1)]), (.lit (.int 5))]) (.mk .lst [(.callv 0 (fnTab fns) [(.op .ix [(.var 1), (.lit (.int 0))]), (.op .ix [(.var 1), (.lit (.int 1))]), (.op .ix [(.var 1), (.lit (.int 2))]), (.op .ix [(.var 1), (.lit (.int 3))]), (.op .ix [(.var 1), (.lit (.int 4))])])]) (.mk .lst [(.callv 0 (fnTab fns) [(.op .ix [(.var 1), (.lit (.int 0))]), (.op .ix [(.var 1), (.lit (.int 1))]), (.op .ix [(.var 1), (.lit (.int 2))]), (.op .ix [(.var 1), (.lit (.int 3))]), (.op .ix [(.var 1), (.lit (.int 4))]), (.op .ix [(.var 1), (.lit (.int 5))])])])))] whs 2)]
def b16 : List S := [(.raise "" (.lit .non)),
  (.raise "" (.lit .non)),
  (.raise "" (.lit .non)),
  (.raise "" (.lit .non))]
def b17 : List S := [(.ret (.and (.op (.isi "int") [(.var 0)]) (.and (.ife (.op (.isi "bool") [(.var 0)]) (.lit (.bl false)) (.lit (.bl true))) (.chain (.var 1) .LtE (.var 0) .LtE (.var 2)))))]
def b18 : List S := [(.ite (.and (.op (.isi "int") [(.var 1)]) (.and (.ife (.op (.isi "bool") [(.var 1)]) (.lit (.bl false)) (.lit (.bl true))) (.op (.cmp .Gt) [(.call 12 [true, false] [(.var 0), (.lit (.int 4))]), (.lit (.int 0))]))) [(.ret (.op (.bin .Add) [(.var 1), (.call 13 [true, false] [(.var 0), (.mk .lst [(.lit (.int 1)), (.op .neg [(.lit (.int 1))]), (.lit (.int 2)), (.lit (.int 40))])])]))] []),
  (.ite (.or (.ife (.op (.isi "tuple") [(.var 1)]) (.lit (.bl false)) (.lit (.bl true))) (.or (.ife (.op .tru [(.var 1)]) (.lit (.bl false)) (.lit (.bl true))) (.or (.op (.cmp .Eq) [(.var 2), (.lit (.int 0))]) (.op (.cmp .Eq) [(.call 12 [true, false] [(.var 0), (.lit (.int 9))]), (.lit (.int 0))])))) [(.ret (.call 13 [true, false] [(.var 0), (.mk .lst [(.lit .non), (.lit (.bl true)), (.lit (.bl false)), (.op .neg [(.lit (.int 1))]), (.lit (.int 0)), (.lit (.int 1)), (.lit (.str "")), (.lit (.str "new")), (.mk .tup []), (.mk .tup [(.lit (.int 0))]), (.mk .tup [(.lit (.int 0)), (.lit (.int 1))]), (.mk .tup [(.lit (.int 1)), (.lit (.int 1))]), (.mk .tup [(.lit (.int 1)), (.lit (.int 0))]), (.mk .tup [(.mk .tup [(.lit (.int 1)), (.lit (.int 1))])]), (.mk .tup [(.mk .tup [(.lit (.int 0)), (.lit (.int 1))])]), (.mk .tup [(.lit .non)]), (.mk .tup [(.lit (.bl true))])])]))] []),
  (.asg (.name 3 false) (.call 12 [true, false] [(.var 0), (.op .len [(.var 1)])])),
  (.asg (.name 4 false) (.call 12 [true, false] [(.var 0), (.lit (.int 8))])),
  (.ite (.op (.cmp .Eq) [(.var 4), (.lit (.int 0))]) [(.ret (.op (.bin .Add) [(.op (.sl false true) [(.var 1), (.op .ck [(.var 3)])]), (.op (.sl true false) [(.var 1), (.op .ck [(.op (.bin .Add) [(.var 3), (.lit (.int 1))])])])]))] []),
  (.ite (.op (.cmp .Eq) [(.var 4), (.lit (.int 1))]) [(.ret (.op (.bin .Add) [(.op (.bin .Add) [(.op (.sl false true) [(.var 1), (.op .ck [(.var 3)])]), (.op (.sl true true) [(.var 1), (.op .ck [(.var 3)]), (.op .ck [(.op (.bin .Add) [(.var 3), (.lit (.int 1))])])])]), (.op (.sl true false) [(.var 1), (.op .ck [(.var 3)])])]))] []),
  (.ite (.op (.cmp .Eq) [(.var 4), (.lit (.int 2))]) [(.ret (.op .rev [(.var 1)]))] []),
  (.ret (.op (.bin .Add) [(.op (.bin .Add) [(.op (.sl false true) [(.var 1), (.op .ck [(.var 3)])]), (.mk .tup [(.call 18 [true, false, false] [(.var 0), (.op .ix [(.var 1), (.var 3)]), (.op (.bin .Sub) [(.var 2), (.lit (.int 1))])])])]), (.op (.sl true false) [(.var 1), (.op .ck [(.op (.bin .Add) [(.var 3), (.lit (.int 1))])])])]))]
def b19 : List S := [(.asg (.name 3 false) (.op .sort [(.op .dict [(.lc [5] (.name 5 false) .rng [(.var 1)] [] (.mk .tup [(.call 12 [true, false] [(.var 0), (.var 2)]), (.lit (.bl true))]))])])),
  (.ret (.op .tuple [(.lc [4] (.name 4 false) .it [(.var 3)] [] (.mk .tup [(.var 4), (.call 13 [true, false] [(.var 0), (.mk .lst [(.lit (.str "left")), (.lit (.str "right")), (.lit (.str "middle")), (.lit (.str "sign"))])])]))]))]
def b20 : List S := [(.asg (.name 3 false) (.lc [4] (.name 4 false) .rng [(.call 12 [true, false] [(.var 0), (.op (.bin .Add) [(.var 1), (.lit (.int 1))])])] [] (.call 12 [true, false] [(.var 0), (.var 2)]))),
  (.ret (.op .tuple [(.lc [5] (.name 5 false) .it [(.var 3)] [] (.mk .tup [(.var 5), (.call 12 [true, false] [(.var 0), (.op (.bin .Add) [(.var 5), (.lit (.int 1))])])]))]))]
def b21 : List S := [(.ret (.op (.bin .Sub) [(.op .ix [(.var 0), (.lit (.int 0))]), (.op .ix [(.op .dict [(.mk .lst [(.mk .tup [(.lit (.str "left")), (.lit (.int 0))]), (.mk .tup [(.lit (.str "right")), (.op .ix [(.var 1), (.lit (.int 0))])]), (.mk .tup [(.lit (.str "middle")), (.op (.bin .FloorDiv) [(.op .ix [(.var 1), (.lit (.int 0))]), (.lit (.int 2))])]), (.mk .tup [(.lit (.str "sign")), (.op .ix [(.var 1), (.lit (.int 1))])])])]), (.op .ix [(.var 0), (.lit (.int 1))])])]))]
def b22 : List S := [(.par [(3, true), (4, false), (5, false)] [(.mk .lst []), (.lit (.int 0)), (.lit (.int 0))]),
  (.for (.name 2 false) .it [(.var 1)] [(.whl (.and (.op (.cmp .Lt) [(.var 5), (.op .len [(.var 0)])]) (.op (.cmp .Lt) [(.op .ix [(.op .ix [(.var 0), (.var 5)]), (.lit (.int 0))]), (.var 4)])) [(.asg (.name 5 false) (.op (.bin .Add) [(.var 5), (.lit (.int 1))]))]), (.ite (.op (.cmp .Eq) [(.var 5), (.op .len [(.var 0)])]) [(.ret (.op .tuple [(.op (.bin .Add) [(.var 3), (.mk .lst [(.lit .non)])])]))] []), (.asg (.name 6 false) (.op .max [(.mk .lst [(.var 4), (.call 21 [false, false] [(.op .ix [(.var 0), (.var 5)]), (.var 2)])])])), (.exp (.mu .append 3 [(.mk .tup [(.var 5), (.var 6)])])), (.par [(4, false), (5, false)] [(.op (.bin .Add) [(.var 6), (.op .ix [(.var 2), (.lit (.int 0))])]), (.op (.bin .Add) [(.var 5), (.lit (.int 1))])])]),
  (.ret (.op .tuple [(.var 3)]))]
def b23 : List S := [(.ite (.or (.ife (.op (.isi "tuple") [(.var 2)]) (.lit (.bl false)) (.lit (.bl true))) (.op (.cmp .NotEq) [(.op .len [(.var 2)]), (.op .len [(.var 1)])])) [(.ret (.lit (.str "paper form")))] []),
  (.for (.name 3 false) .it [(.var 2)] [(.ite (.or (.ife (.op (.isi "tuple") [(.var 3)]) (.lit (.bl false)) (.lit (.bl true))) (.or (.op (.cmp .NotEq) [(.op .len [(.var 3)]), (.lit (.int 2))]) (.or (.ife (.call 17 [false, false, false] [(.op .ix [(.var 3), (.lit (.int 0))]), (.lit (.int 0)), (.op (.bin .Sub) [(.op .len [(.var 0)]), (.lit (.int 1))])]) (.lit (.bl false)) (.lit (.bl true))) (.ife (.call 17 [false, false, false] [(.op .ix [(.var 3), (.lit (.int 1))]), (.op .neg [(.op (.bin .Pow) [(.lit (.int 10)), (.lit (.int 40))])]), (.op (.bin .Pow) [(.lit (.int 10)), (.lit (.int 40))])]) (.lit (.bl false)) (.lit (.bl true)))))) [(.ret (.lit (.str "paper form")))] [])]),
  (.par [(5, false), (6, false)] [(.op .neg [(.lit (.int 1))]), (.lit (.int 0))]),
  (.for (.name 4 false) .rng [(.op .len [(.var 2)])] [(.ite (.op (.cmp .LtE) [(.op .ix [(.op .ix [(.var 2), (.var 4)]), (.lit (.int 0))]), (.var 5)]) [(.ret (.lit (.str "paper stop")))] []), (.ite (.op (.cmp .Lt) [(.op .ix [(.op .ix [(.var 2), (.var 4)]), (.lit (.int 1))]), (.op .max [(.mk .lst [(.var 6), (.call 21 [false, false] [(.op .ix [(.var 0), (.op .ix [(.op .ix [(.var 2), (.var 4)]), (.lit (.int 0))])]), (.op .ix [(.var 1), (.var 4)])])])])]) [(.ret (.lit (.str "paper place")))] []), (.par [(5, false), (6, false)] [(.op .ix [(.op .ix [(.var 2), (.var 4)]), (.lit (.int 0))]), (.op (.bin .Add) [(.op .ix [(.op .ix [(.var 2), (.var 4)]), (.lit (.int 1))]), (.op .ix [(.op .ix [(.var 1), (.var 4)]), (.lit (.int 0))])])])]),
  (.ret (.mk .lst [(.lit .non)]))]
def b24 : List S := [(.asg (.name 1 false) (.call 13 [true, false] [(.var 0), (.mk .lst [(.lit (.int 9)), (.lit (.int 60))])])),
  (.par [(4, false), (5, false)] [(.call 19 [true, false, false] [(.var 0), (.lit (.int 12)), (.var 1)]), (.call 20 [true, false, false] [(.var 0), (.lit (.int 5)), (.call 13 [true, false] [(.var 0), (.mk .lst [(.lit (.int 3)), (.lit (.int 12))])])])]),
  (.asg (.name 2 false) (.op .tuple [(.lc [7] (.name 7 false) .it [(.call 22 [false, false] [(.var 4), (.var 5)])] [] (.ife (.op (.cmp .IsNot) [(.var 7), (.lit .non)]) (.var 7) (.mk .tup [(.op (.bin .Sub) [(.op .len [(.var 4)]), (.lit (.int 1))]), (.lit (.int 99))])))])),
  (.asg (.name 2 false) (.op (.bin .Add) [(.var 2), (.op (.bin .Mult) [(.mk .tup [(.mk .tup [(.op (.bin .Sub) [(.op .len [(.var 4)]), (.lit (.int 1))]), (.lit (.int 500))])]), (.op (.bin .Sub) [(.op .len [(.var 5)]), (.op .len [(.var 2)])])])])),
  (.for (.name 3 false) .rng [(.lit (.int 8))] [(.asg (.name 6 false) (.var 2)), (.ite (.op (.cmp .Gt) [(.var 3), (.lit (.int 0))]) [(.asg (.name 6 false) (.ife (.op (.cmp .Lt) [(.var 3), (.lit (.int 5))]) (.call 18 [true, false, false] [(.var 0), (.var 2), (.lit (.int 2))]) (.op .tuple [(.lc [7] (.name 7 false) .it [(.var 2)] [] (.mk .tup [(.op (.bin .Add) [(.op .ix [(.var 7), (.lit (.int 0))]), (.call 12 [true, false] [(.var 0), (.lit (.int 2))])]), (.op (.bin .Add) [(.op .ix [(.var 7), (.lit (.int 1))]), (.call 12 [true, false] [(.var 0), (.lit (.int 3))])])]))])))] []), (.ite (.ife (.call 14 [false, false] [(.call 15 [false, false] [(.lit (.fn "accept_fields")), (.mk .lst [(.var 4), (.var 5), (.var 6)])]), (.call 23 [false, false, false] [(.var 4), (.var 5), (.var 6)])]) (.lit (.bl false)) (.lit (.bl true))) [(.ret (.lit (.bl false)))] [])]),
  (.ret (.lit (.bl true)))]
def b25 : List S := [(.ite (.or (.ife (.op (.isi "tuple") [(.var 0)]) (.lit (.bl false)) (.lit (.bl true))) (.ife (.chain (.lit (.int 1)) .LtE (.op .len [(.var 0)]) .LtE (.lit (.int 20))) (.lit (.bl false)) (.lit (.bl true)))) [(.ret (.lit (.bl false)))] []),
  (.asg (.name 1 false) (.op .neg [(.lit (.int 1))])),
  (.for (.name 2 false) .it [(.var 0)] [(.ite (.or (.ife (.op (.isi "tuple") [(.var 2)]) (.lit (.bl false)) (.lit (.bl true))) (.or (.op (.cmp .NotEq) [(.op .len [(.var 2)]), (.lit (.int 2))]) (.or (.ife (.call 17 [false, false, false] [(.op .ix [(.var 2), (.lit (.int 0))]), (.op (.bin .Add) [(.var 1), (.lit (.int 1))]), (.lit (.int 100000))]) (.lit (.bl false)) (.lit (.bl true))) (.ife (.op (.isi "str") [(.op .ix [(.var 2), (.lit (.int 1))])]) (.lit (.bl false)) (.lit (.bl true)))))) [(.ret (.lit (.bl false)))] []), (.ite (.op (.cmp .NotIn) [(.op .ix [(.var 2), (.lit (.int 1))]), (.mk .lst [(.lit (.str "left")), (.lit (.str "right")), (.lit (.str "middle")), (.lit (.str "sign"))])]) [(.ret (.lit (.bl false)))] []), (.asg (.name 1 false) (.op .ix [(.var 2), (.lit (.int 0))]))]),
  (.ret (.lit (.bl true)))]
def b26 : List S := [(.ite (.or (.ife (.op (.isi "tuple") [(.var 0)]) (.lit (.bl false)) (.lit (.bl true))) (.op (.cmp .Gt) [(.op .len [(.var 0)]), (.lit (.int 20))])) [(.ret (.lit (.bl false)))] []),
  (.for (.name 1 false) .it [(.var 0)] [(.ite (.or (.ife (.op (.isi "tuple") [(.var 1)]) (.lit (.bl false)) (.lit (.bl true))) (.or (.op (.cmp .NotEq) [(.op .len [(.var 1)]), (.lit (.int 2))]) (.or (.ife (.call 17 [false, false, false] [(.op .ix [(.var 1), (.lit (.int 0))]), (.lit (.int 0)), (.lit (.int 100000))]) (.lit (.bl false)) (.lit (.bl true))) (.ife (.call 17 [false, false, false] [(.op .ix [(.var 1), (.lit (.int 1))]), (.lit (.int 0)), (.op .ix [(.var 1), (.lit (.int 0))])]) (.lit (.bl false)) (.lit (.bl true)))))) [(.ret (.lit (.bl false)))] [])]),
  (.ret (.lit (.bl true)))]
def b27 : List S := [(.ite (.or (.ife (.op (.isi "tuple") [(.var 0)]) (.lit (.bl false)) (.lit (.bl true))) (.or (.ife (.chain (.lit (.int 1)) .LtE (.op .len [(.var 0)]) .LtE (.lit (.int 20))) (.lit (.bl false)) (.lit (.bl true))) (.lc [1] (.name 1 false) .it [(.var 0)] [(.ife (.op (.isi "tuple") [(.var 1)]) (.lit (.bl false)) (.lit (.bl true)))] (.var 1)))) [(.ret (.lit (.bl false)))] []),
  (.ite (.or (.ife (.chain (.lit (.int 1)) .LtE (.op .len [(.op .ix [(.var 0), (.lit (.int 0))])]) .LtE (.lit (.int 20))) (.lit (.bl false)) (.lit (.bl true))) (.lc [1] (.name 1 false) .it [(.var 0)] [(.op (.cmp .NotEq) [(.op .len [(.var 1)]), (.op .len [(.op .ix [(.var 0), (.lit (.int 0))])])])] (.var 1))) [(.ret (.lit (.bl false)))] []),
  (.ret (.ife (.lc [1] (.name 1 false) .it [(.var 0)] [(.lc [2] (.name 2 false) .it [(.var 1)] [(.ife (.call 17 [false, false, false] [(.var 2), (.lit (.int 0)), (.lit (.int 5000))]) (.lit (.bl false)) (.lit (.bl true)))] (.var 2))] (.var 1)) (.lit (.bl false)) (.lit (.bl true))))]
def b28 : List S := [(.asg (.tup [(.name 3 false), (.name 4 false), (.name 5 false), (.name 6 false), (.name 7 false), (.name 8 false), (.name 9 false)]) (.var 1)),
  (.ite (.op (.cmp .Lt) [(.var 0), (.lit (.int 4))]) [(.asg (.name 10 false) (.mk .lst [(.mk .tup [(.lit (.str "stops")), (.call 25 [false] [(.var 3)])]), (.mk .tup [(.lit (.str "fields")), (.call 26 [false] [(.var 4)])])]))] [(.ite (.op (.cmp .Eq) [(.var 0), (.lit (.int 4))]) [(.asg (.name 10 false) (.mk .lst [(.mk .tup [(.lit (.str "fields")), (.call 26 [false] [(.var 4)])])]))] [(.ite (.op (.cmp .Eq) [(.var 0), (.lit (.int 5))]) [(.asg (.name 10 false) (.mk .lst [(.mk .tup [(.lit (.str "rows")), (.call 27 [false] [(.var 5)])]), (.mk .tup [(.lit (.str "gap")), (.call 17 [false, false, false] [(.var 6), (.lit (.int 1)), (.lit (.int 100000))])])]))] [(.asg (.name 10 false) (.mk .lst [(.mk .tup [(.lit (.str "begin")), (.call 17 [false, false, false] [(.var 7), (.lit (.int 0)), (.lit (.int 100000))])]), (.mk .tup [(.lit (.str "end")), (.call 17 [false, false, false] [(.var 8), (.lit (.int 0)), (.lit (.int 100000))])]), (.mk .tup [(.lit (.str "own")), (.call 17 [false, false, false] [(.var 9), (.lit (.int 1)), (.lit (.int 100000))])])]))])])]),
  (.asg (.name 2 false) (.lc [11, 12] (.tup [(.name 11 false), (.name 12 false)]) .it [(.var 10)] [(.ife (.op .tru [(.var 12)]) (.lit (.bl false)) (.lit (.bl true)))] (.var 11))),
  (.ret (.ife (.op .tru [(.var 2)]) (.op (.bin .Add) [(.lit (.str "argument ")), (.op .ix [(.var 2), (.lit (.int 0))])]) (.ife (.op (.cmp .Eq) [(.var 0), (.lit (.int 3))]) (.lit (.str "paper form")) (.lit (.str "")))))]
def b29 : List S := [(.asg (.tup [(.name 4 false), (.name 5 false), (.name 6 false), (.name 7 false), (.name 8 false), (.name 9 false), (.name 10 false)]) (.var 1)),
  (.asg (.name 2 false) (.mk .lst [(.mk .lst [(.var 4), (.var 5)]), (.mk .lst [(.var 4), (.var 5)]), (.mk .lst [(.var 4), (.var 5)]), (.mk .lst [(.var 4), (.var 5), (.lit .non)]), (.mk .lst [(.var 5)]), (.mk .lst [(.var 6), (.var 7)]), (.mk .lst [(.var 8), (.var 9), (.var 10)])])),
  (.asg (.name 3 false) (.call 15 [false, false] [(.op .ix [(.mk .lst [(.lit (.fn "set_fields")), (.lit (.fn "shifts")), (.lit (.fn "is_clean")), (.lit (.fn "accept_fields")), (.lit (.fn "sign_stop")), (.lit (.fn "least_stops")), (.lit (.fn "leaders"))]), (.var 0)]), (.op .ix [(.var 2), (.var 0)])])),
  (.ret (.ife (.op (.isi "list") [(.var 3)]) (.lit (.str "")) (.var 3)))]
def b30 : List S := [(.asg (.name 1 true) (.call 11 [false] [(.var 0)])),
  (.ite (.or (.ife (.call 24 [true] [(.var 1)]) (.lit (.bl false)) (.lit (.bl true))) (.ife (.call 24 [true] [(.var 1)]) (.lit (.bl false)) (.lit (.bl true)))) [(.ret (.lit (.bl false)))] []),
  (.for (.name 2 false) .rng [(.lit (.int 9))] [(.asg (.name 3 true) (.mk .lst [(.mk .tup [(.mk .tup [(.lit (.int 10)), (.lit (.str "right"))]), (.mk .tup [(.lit (.int 30)), (.lit (.str "sign"))]), (.mk .tup [(.lit (.int 50)), (.lit (.str "middle"))])]), (.mk .tup [(.mk .tup [(.lit (.int 15)), (.lit (.int 0))]), (.mk .tup [(.lit (.int 8)), (.lit (.int 3))])]), (.mk .tup [(.mk .tup [(.lit (.int 3)), (.lit (.int 5))]), (.mk .tup [(.lit (.int 7)), (.lit (.int 1))])]), (.lit (.int 2)), (.lit (.int 11)), (.lit (.int 30)), (.lit (.int 6))])), (.for (.name 4 false) .rng [(.ife (.op (.cmp .Gt) [(.var 2), (.lit (.int 0))]) (.call 13 [true, false] [(.var 1), (.mk .lst [(.lit (.int 1)), (.lit (.int 1)), (.lit (.int 2)), (.lit (.int 3))])]) (.lit (.int 0)))] [(.asg (.name 6 false) (.call 12 [true, false] [(.var 1), (.lit (.int 7))])), (.asg (.name 7 false) (.mk .lst [(.lit (.int 0)), (.lit (.int 1)), (.op .neg [(.lit (.int 1))]), (.lit (.int 100000)), (.lit (.bl true)), (.lit .non), (.lit (.str "1")), (.mk .tup []), (.mk .tup [(.mk .tup [(.lit (.int 1)), (.lit (.str "left"))])]), (.mk .tup [(.mk .tup [(.lit (.int 1)), (.lit (.str "Left"))])]), (.mk .tup [(.mk .tup [(.lit (.int 1)), (.lit (.str "left"))]), (.mk .tup [(.lit (.int 1)), (.lit (.str "left"))])]), (.mk .tup [(.mk .tup [(.lit (.int 0)), (.lit (.int 1))])]), (.op (.bin .Mult) [(.mk .tup [(.mk .tup [(.lit (.int 1)), (.lit (.int 1))])]), (.lit (.int 20))])])), (.asg (.name 7 false) (.op (.bin .Add) [(.var 7), (.mk .lst [(.op (.bin .Mult) [(.mk .tup [(.mk .tup [(.lit (.int 1)), (.lit (.int 1))])]), (.lit (.int 21))]), (.mk .tup [(.mk .tup [(.lit (.int 5000))])]), (.mk .tup [(.mk .tup [(.lit (.int 5001))])]), (.mk .tup [(.mk .tup [(.lit (.int 1))]), (.mk .tup [(.lit (.int 1)), (.lit (.int 2))])]), (.mk .tup [(.mk .tup [])]), (.mk .tup [(.op (.bin .Mult) [(.mk .tup [(.lit (.int 1))]), (.lit (.int 20))])])])])), (.asg (.name 7 false) (.op (.bin .Add) [(.var 7), (.mk .lst [(.mk .tup [(.op (.bin .Mult) [(.mk .tup [(.lit (.int 1))]), (.lit (.int 21))])]), (.op .tuple [(.lc [4] (.name 4 false) .rng [(.lit (.int 20))] [] (.mk .tup [(.var 4), (.lit (.str "left"))]))]), (.op .tuple [(.lc [4] (.name 4 false) .rng [(.lit (.int 21))] [] (.mk .tup [(.var 4), (.lit (.str "left"))]))]), (.mk .tup [(.mk .tup [(.lit (.int 100000)), (.lit (.str "sign"))])]), (.mk .tup [(.mk .tup [(.lit (.int 100001)), (.lit (.str "sign"))])])])])), (.seti 3 (.var 6) (.ife (.op (.cmp .Eq) [(.call 12 [true, false] [(.var 1), (.lit (.int 2))]), (.lit (.int 0))]) (.call 18 [true, false, false] [(.var 1), (.op .ix [(.var 3), (.var 6)]), (.lit (.int 3))]) (.call 13 [true, false] [(.var 1), (.var 7)])))]), (.for (.name 5 false) .rng [(.lit (.int 7))] [(.ite (.op (.cmp .NotEq) [(.call 29 [false, false] [(.var 5), (.var 3)]), (.call 28 [false, false] [(.var 5), (.var 3)])]) [(.ret (.lit (.bl false)))] [])])]),
  (.ret (.lit (.bl true)))]
theorem c0 : mapO (cmpS 60 g0) (defBody (tp 7)) = some b0 := by rfl
theorem c1 : mapO (cmpS 60 g1) (defBody (tp 12)) = some b1 := by rfl
theorem c2 : mapO (cmpS 60 g2) (defBody (tp 13)) = some b2 := by rfl
theorem c3 : mapO (cmpS 60 g3) (defBody (tp 14)) = some b3 := by rfl
theorem c4 : mapO (cmpS 60 g4) (defBody (tp 15)) = some b4 := by rfl
theorem c5 : mapO (cmpS 60 g5) (defBody (tp 16)) = some b5 := by rfl
theorem c6 : mapO (cmpS 60 g6) (defBody (tp 17)) = some b6 := by rfl
theorem c7 : mapO (cmpS 60 g7) (defBody (tp 18)) = some b7 := by rfl
theorem c8 : mapO (cmpS 60 g8) (defBody (tp 19)) = some b8 := by rfl
theorem c9 : mapO (cmpS 60 g9) (defBody (tp 20)) = some b9 := by rfl
theorem c10 : mapO (cmpS 60 g10) (defBody (tp 21)) = some b10 := by rfl
theorem c11 : mapO (cmpS 60 g11) (defBody (tp 23)) = some b11 := by rfl
theorem c12 : mapO (cmpS 60 g12) (defBody (tp 24)) = some b12 := by rfl
theorem c13 : mapO (cmpS 60 g13) (defBody (tp 25)) = some b13 := by rfl
theorem c14 : mapO (cmpS 60 g14) (defBody (tp 26)) = some b14 := by rfl
theorem c15 : mapO (cmpS 60 g15) (defBody (tp 27)) = some b15 := by rfl
theorem c16 : mapO (cmpS 60 g16) (defBody (tp 28)) = some b16 := by rfl
theorem c17 : mapO (cmpS 60 g17) (defBody (tp 29)) = some b17 := by rfl
theorem c18 : mapO (cmpS 60 g18) (defBody (tp 30)) = some b18 := by rfl
theorem c19 : mapO (cmpS 60 g19) (defBody (tp 31)) = some b19 := by rfl
theorem c20 : mapO (cmpS 60 g20) (defBody (tp 32)) = some b20 := by rfl
theorem c21 : mapO (cmpS 60 g21) (defBody (tp 33)) = some b21 := by rfl
theorem c22 : mapO (cmpS 60 g22) (defBody (tp 34)) = some b22 := by rfl
theorem c23 : mapO (cmpS 60 g23) (defBody (tp 35)) = some b23 := by rfl
theorem c24 : mapO (cmpS 60 g24) (defBody (tp 36)) = some b24 := by rfl
theorem c25 : mapO (cmpS 60 g25) (defBody (tp 37)) = some b25 := by rfl
theorem c26 : mapO (cmpS 60 g26) (defBody (tp 38)) = some b26 := by rfl
theorem c27 : mapO (cmpS 60 g27) (defBody (tp 39)) = some b27 := by rfl
theorem c28 : mapO (cmpS 60 g28) (defBody (tp 40)) = some b28 := by rfl
theorem c29 : mapO (cmpS 60 g29) (defBody (tp 41)) = some b29 := by rfl
theorem c30 : mapO (cmpS 60 g30) (defBody (tp 42)) = some b30 := by rfl
def tab : Tab := [(⟨"is_integer", [false]⟩, ⟨[false], 1, false, b0⟩),
  (⟨"check_stops", [false]⟩, ⟨[false], 3, false, b1⟩),
  (⟨"check_fields", [false]⟩, ⟨[false], 3, false, b2⟩),
  (⟨"wanted", [false, false]⟩, ⟨[false, false], 6, false, b3⟩),
  (⟨"set_fields", [false, false]⟩, ⟨[false, false], 9, false, b4⟩),
  (⟨"shifts", [false, false]⟩, ⟨[false, false], 5, false, b5⟩),
  (⟨"is_clean", [false, false]⟩, ⟨[false, false], 4, false, b6⟩),
  (⟨"accept_fields", [false, false, false]⟩, ⟨[false, false, false], 8, false, b7⟩),
  (⟨"least_stops", [false, false]⟩, ⟨[false, false], 7, false, b8⟩),
  (⟨"sign_stop", [false]⟩, ⟨[false], 4, false, b9⟩),
  (⟨"leaders", [false, false, false]⟩, ⟨[false, false, false], 7, false, b10⟩),
  (⟨"_law_start", [false]⟩, ⟨[false], 3, true, b11⟩),
  (⟨"_law_draw", [true, false]⟩, ⟨[true, false], 3, false, b12⟩),
  (⟨"_law_pick", [true, false]⟩, ⟨[true, false], 2, false, b13⟩),
  (⟨"_law_same", [false, false]⟩, ⟨[false, false], 2, false, b14⟩),
  (⟨"_law_asked", [false, false]⟩, ⟨[false, false], 3, false, b15⟩),
  (⟨"_law_word", [false]⟩, ⟨[false], 3, false, b16⟩),
  (⟨"_law_whole", [false, false, false]⟩, ⟨[false, false, false], 3, false, b17⟩),
  (⟨"_law_bent", [true, false, false]⟩, ⟨[true, false, false], 5, false, b18⟩),
  (⟨"_law_stops", [true, false, false]⟩, ⟨[true, false, false], 6, false, b19⟩),
  (⟨"_law_fields", [true, false, false]⟩, ⟨[true, false, false], 6, false, b20⟩),
  (⟨"_law_wanted", [false, false]⟩, ⟨[false, false], 2, false, b21⟩),
  (⟨"_law_set", [false, false]⟩, ⟨[false, false], 7, false, b22⟩),
  (⟨"_law_fields_due", [false, false, false]⟩, ⟨[false, false, false], 7, false, b23⟩),
  (⟨"_law_papers_hold", [true]⟩, ⟨[true], 8, false, b24⟩),
  (⟨"_law_are_stops", [false]⟩, ⟨[false], 3, false, b25⟩),
  (⟨"_law_are_fields", [false]⟩, ⟨[false], 2, false, b26⟩),
  (⟨"_law_are_rows", [false]⟩, ⟨[false], 3, false, b27⟩),
  (⟨"_law_due", [false, false]⟩, ⟨[false, false], 13, false, b28⟩),
  (⟨"_law_told", [false, false]⟩, ⟨[false, false], 11, false, b29⟩),
  (⟨"law", [false]⟩, ⟨[false], 8, false, b30⟩)]
theorem fns_tab : fns = tab.map (·.1) := rfl
theorem s0 : FnScope g0.N ["value"] (defScope (tp 7)) := ⟨rfl, rfl, rfl, by decide +kernel, rfl, by decide +kernel, by decide +kernel⟩
theorem s1 : FnScope g1.N ["stops"] (defScope (tp 12)) := ⟨rfl, rfl, rfl, by decide +kernel, rfl, by decide +kernel, by decide +kernel⟩
theorem s2 : FnScope g2.N ["fields"] (defScope (tp 13)) := ⟨rfl, rfl, rfl, by decide +kernel, rfl, by decide +kernel, by decide +kernel⟩
theorem s3 : FnScope g3.N ["stop", "field"] (defScope (tp 14)) := ⟨rfl, rfl, rfl, by decide +kernel, rfl, by decide +kernel, by decide +kernel⟩
theorem s4 : FnScope g4.N ["stops", "fields"] (defScope (tp 15)) := ⟨rfl, rfl, rfl, by decide +kernel, rfl, by decide +kernel, by decide +kernel⟩
theorem s5 : FnScope g5.N ["stops", "fields"] (defScope (tp 16)) := ⟨rfl, rfl, rfl, by decide +kernel, rfl, by decide +kernel, by decide +kernel⟩
theorem s6 : FnScope g6.N ["stops", "fields"] (defScope (tp 17)) := ⟨rfl, rfl, rfl, by decide +kernel, rfl, by decide +kernel, by decide +kernel⟩
theorem s7 : FnScope g7.N ["stops", "fields", "rows"] (defScope (tp 18)) := ⟨rfl, rfl, rfl, by decide +kernel, rfl, by decide +kernel, by decide +kernel⟩
theorem s8 : FnScope g8.N ["rows", "gap"] (defScope (tp 19)) := ⟨rfl, rfl, rfl, by decide +kernel, rfl, by decide +kernel, by decide +kernel⟩
theorem s9 : FnScope g9.N ["fields"] (defScope (tp 20)) := ⟨rfl, rfl, rfl, by decide +kernel, rfl, by decide +kernel, by decide +kernel⟩
theorem s10 : FnScope g10.N ["begin", "end", "own"] (defScope (tp 21)) := ⟨rfl, rfl, rfl, by decide +kernel, rfl, by decide +kernel, by decide +kernel⟩
theorem s11 : FnScope g11.N ["script"] (defScope (tp 23)) := ⟨rfl, rfl, rfl, by decide +kernel, rfl, by decide +kernel, by decide +kernel⟩
theorem s12 : FnScope g12.N ["state", "many"] (defScope (tp 24)) := ⟨rfl, rfl, rfl, by decide +kernel, rfl, by decide +kernel, by decide +kernel⟩
theorem s13 : FnScope g13.N ["state", "some"] (defScope (tp 25)) := ⟨rfl, rfl, rfl, by decide +kernel, rfl, by decide +kernel, by decide +kernel⟩
theorem s14 : FnScope g14.N ["actual", "due"] (defScope (tp 26)) := ⟨rfl, rfl, rfl, by decide +kernel, rfl, by decide +kernel, by decide +kernel⟩
theorem s15 : FnScope g15.N ["way", "some"] (defScope (tp 27)) := ⟨rfl, rfl, rfl, by decide +kernel, rfl, by decide +kernel, by decide +kernel⟩
theorem s16 : FnScope g16.N ["error"] (defScope (tp 28)) := ⟨rfl, rfl, rfl, by decide +kernel, rfl, by decide +kernel, by decide +kernel⟩
theorem s17 : FnScope g17.N ["value", "least", "most"] (defScope (tp 29)) := ⟨rfl, rfl, rfl, by decide +kernel, rfl, by decide +kernel, by decide +kernel⟩
theorem s18 : FnScope g18.N ["state", "value", "depth"] (defScope (tp 30)) := ⟨rfl, rfl, rfl, by decide +kernel, rfl, by decide +kernel, by decide +kernel⟩
theorem s19 : FnScope g19.N ["state", "many", "top"] (defScope (tp 31)) := ⟨rfl, rfl, rfl, by decide +kernel, rfl, by decide +kernel, by decide +kernel⟩
theorem s20 : FnScope g20.N ["state", "many", "top"] (defScope (tp 32)) := ⟨rfl, rfl, rfl, by decide +kernel, rfl, by decide +kernel, by decide +kernel⟩
theorem s21 : FnScope g21.N ["stop", "field"] (defScope (tp 33)) := ⟨rfl, rfl, rfl, by decide +kernel, rfl, by decide +kernel, by decide +kernel⟩
theorem s22 : FnScope g22.N ["stops", "fields"] (defScope (tp 34)) := ⟨rfl, rfl, rfl, by decide +kernel, rfl, by decide +kernel, by decide +kernel⟩
theorem s23 : FnScope g23.N ["stops", "fields", "rows"] (defScope (tp 35)) := ⟨rfl, rfl, rfl, by decide +kernel, rfl, by decide +kernel, by decide +kernel⟩
theorem s24 : FnScope g24.N ["state"] (defScope (tp 36)) := ⟨rfl, rfl, rfl, by decide +kernel, rfl, by decide +kernel, by decide +kernel⟩
theorem s25 : FnScope g25.N ["stops"] (defScope (tp 37)) := ⟨rfl, rfl, rfl, by decide +kernel, rfl, by decide +kernel, by decide +kernel⟩
theorem s26 : FnScope g26.N ["fields"] (defScope (tp 38)) := ⟨rfl, rfl, rfl, by decide +kernel, rfl, by decide +kernel, by decide +kernel⟩
theorem s27 : FnScope g27.N ["rows"] (defScope (tp 39)) := ⟨rfl, rfl, rfl, by decide +kernel, rfl, by decide +kernel, by decide +kernel⟩
theorem s28 : FnScope g28.N ["way", "some"] (defScope (tp 40)) := ⟨rfl, rfl, rfl, by decide +kernel, rfl, by decide +kernel, by decide +kernel⟩
theorem s29 : FnScope g29.N ["way", "some"] (defScope (tp 41)) := ⟨rfl, rfl, rfl, by decide +kernel, rfl, by decide +kernel, by decide +kernel⟩
theorem s30 : FnScope g30.N ["script"] (defScope (tp 42)) := ⟨rfl, rfl, rfl, by decide +kernel, rfl, by decide +kernel, by decide +kernel⟩
end W
namespace DL
open PySem L2
/-! ## loops over typed data -/
section
variable {Φ : Nat → Fn} {vs : List Nat} {t : T} {k : Sk} {src ifs : List E} {elt : E} {ρ ρ1 : Sts} {ds : List D} {b : List S}
theorem lcl_ty {α : Type} {f : Sts → R Sts (Bool × Sts)} {g : Sts → R Sts (D × Sts)} (enc : α → D) (p : α → Bool) (h : α → D) {ρ : Sts} : ∀ (xs : List α) (acc : List D),
    (∀ a ∈ xs, ∃ ρ1, assignT t (.val (enc a)) ρ = some ρ1 ∧ f ρ1 = .ok (p a, ρ1) ∧ (p a = true → g ρ1 = .ok (h a, ρ1)) ∧ wipeE ρ1 vs = ρ) → acc.length + xs.length ≤ Line → lcLoop vs t f g (xs.map enc) acc ρ = .ok (acc ++ (xs.filter p).map h, ρ)
  | [], acc, _, _ => by simp
  | x :: xs, acc, hs, hl => by
    obtain ⟨ρ1, e1, e2, e3, e4⟩ := hs x List.mem_cons_self
    have rest := fun y hy => hs y (List.mem_cons_of_mem _ hy)
    rw [List.length_cons] at hl
    rw [List.map_cons, lc_step, e1, R.ofO_some, R.bind_ok, e2, R.bind_ok]
    cases hp : p x with
    | true =>
      rw [if_pos rfl, e3 hp, R.bind_ok, if_pos (by omega), e4, lcl_ty enc p h xs _ rest (by simp; omega), List.filter_cons_of_pos hp]
      simp
    | false =>
      rw [if_neg (by simp), e4, lcl_ty enc p h xs acc rest (by omega), List.filter_cons_of_neg (by simp [hp])]
/-- [elt for x in src if ..] over data of a type -/
theorem lc_ty {α : Type} (xs : List α) (enc : α → D) (p : α → Bool) (h : α → D) (hs : evVs Φ src ρ = .ok (ds, ρ1)) (hi : srcf k ds = some (xs.map enc)) (ho : ownAny ρ1 vs = false)
    (st : ∀ a ∈ xs, ∃ ρ2, assignT t (.val (enc a)) (wipeE ρ1 vs) = some ρ2 ∧ evTs Φ ifs ρ2 = .ok (p a, ρ2) ∧ (p a = true → rel (ev Φ elt ρ2) = .ok (h a, ρ2)) ∧ wipeE ρ2 vs = wipeE ρ1 vs) (hl : xs.length ≤ Line) :
    ev Φ (.lc vs t k src ifs elt) ρ = .ok (.own (.lst ((xs.filter p).map h)), backE ρ1 (wipeE ρ1 vs) vs) := by
  show ((evVs Φ src ρ).bind fun p => match srcf k p.1 with
    | some items => if ownAny p.2 vs then .bad else
        (noExc (lcLoop vs t (fun ρ => evTs Φ ifs ρ) (fun ρ => rel (ev Φ elt ρ)) items [] (wipeE p.2 vs))).map fun q => (Slot.own (.lst q.1), backE p.2 q.2 vs)
    | none => .bad) = _
  rw [hs, R.bind_ok]
  dsimp only
  rw [hi]
  dsimp only
  rw [ho, if_neg Bool.false_ne_true, lcl_ty enc p h xs [] st (by simpa using hl)]
  rfl
theorem lc_ty0 {α : Type} (xs : List α) (enc : α → D) (h : α → D) (hs : evVs Φ src ρ = .ok (ds, ρ1)) (hi : srcf k ds = some (xs.map enc)) (ho : ownAny ρ1 vs = false)
    (st : ∀ a ∈ xs, ∃ ρ2, assignT t (.val (enc a)) (wipeE ρ1 vs) = some ρ2 ∧ rel (ev Φ elt ρ2) = .ok (h a, ρ2) ∧ wipeE ρ2 vs = wipeE ρ1 vs) (hl : xs.length ≤ Line) :
    ev Φ (.lc vs t k src [] elt) ρ = .ok (.own (.lst (xs.map h)), backE ρ1 (wipeE ρ1 vs) vs) := by
  have := lc_ty (Φ := Φ) (t := t) (ifs := []) (elt := elt) xs enc (fun _ => true) h hs hi ho (fun a ha => by
    obtain ⟨ρ2, e1, e2, e3⟩ := st a ha
    exact ⟨ρ2, e1, rfl, fun _ => e2, e3⟩) hl
  rwa [List.filter_eq_self.mpr (fun _ _ => rfl)] at this
/-- .. where the source changes nothing -/
theorem lc_tyS {α : Type} (ds : List D) (xs : List α) (enc : α → D) (p : α → Bool) (h : α → D) (hs : evVs Φ src ρ = .ok (ds, ρ)) (hi : srcf k ds = some (xs.map enc)) (ho : ownAny ρ vs = false) (hb : backE ρ (wipeE ρ vs) vs = ρ)
    (st : ∀ a ∈ xs, ∃ ρ2, assignT t (.val (enc a)) (wipeE ρ vs) = some ρ2 ∧ evTs Φ ifs ρ2 = .ok (p a, ρ2) ∧ (p a = true → rel (ev Φ elt ρ2) = .ok (h a, ρ2)) ∧ wipeE ρ2 vs = wipeE ρ vs) (hl : xs.length ≤ Line) :
    ev Φ (.lc vs t k src ifs elt) ρ = .ok (.own (.lst ((xs.filter p).map h)), ρ) := by
  have := lc_ty (Φ := Φ) (t := t) (ifs := ifs) (elt := elt) xs enc p h hs hi ho st hl
  rwa [hb] at this
theorem lc_ty0S {α : Type} (ds : List D) (xs : List α) (enc : α → D) (h : α → D) (hs : evVs Φ src ρ = .ok (ds, ρ)) (hi : srcf k ds = some (xs.map enc)) (ho : ownAny ρ vs = false) (hb : backE ρ (wipeE ρ vs) vs = ρ)
    (st : ∀ a ∈ xs, ∃ ρ2, assignT t (.val (enc a)) (wipeE ρ vs) = some ρ2 ∧ rel (ev Φ elt ρ2) = .ok (h a, ρ2) ∧ wipeE ρ2 vs = wipeE ρ vs) (hl : xs.length ≤ Line) :
    ev Φ (.lc vs t k src [] elt) ρ = .ok (.own (.lst (xs.map h)), ρ) := by
  have := lc_ty0 (Φ := Φ) (t := t) (elt := elt) xs enc h hs hi ho st hl
  rwa [hb] at this
theorem lcl_ex {α β : Type} {f : Sts → R Sts (Bool × Sts)} {g : Sts → R Sts (D × Sts)} (enc : α → D) (out : β → D) (I : Sts → Prop) (Q : β → Prop) : ∀ (xs : List α) (acc : List D) (ρ : Sts),
    (∀ a ∈ xs, ∀ ρ, I ρ → ∃ ρ1 b ρ3, assignT t (.val (enc a)) ρ = some ρ1 ∧ f ρ1 = .ok (true, ρ1) ∧ g ρ1 = .ok (out b, ρ3) ∧ Q b ∧ I (wipeE ρ3 vs)) → I ρ → acc.length + xs.length ≤ Line →
      ∃ (bs : List β) (ρ' : Sts), lcLoop vs t f g (xs.map enc) acc ρ = .ok (acc ++ bs.map out, ρ') ∧ I ρ' ∧ (∀ b ∈ bs, Q b) ∧ bs.length = xs.length
  | [], acc, ρ, _, hI, _ => ⟨[], ρ, by simp, hI, by simp, rfl⟩
  | x :: xs, acc, ρ, hs, hI, hl => by
    obtain ⟨ρ1, d, ρ3, e1, e2, e5, e6, e7⟩ := hs x List.mem_cons_self ρ hI
    have rest := fun y hy => hs y (List.mem_cons_of_mem _ hy)
    rw [List.length_cons] at hl
    obtain ⟨bs, ρ', z1, z2, z3, z4⟩ := lcl_ex enc out I Q xs (acc ++ [out d]) _ rest e7 (by simp; omega)
    refine ⟨d :: bs, ρ', ?_, z2, ?_, by simp [z4]⟩
    · rw [List.map_cons, lc_step, e1, R.ofO_some, R.bind_ok, e2, R.bind_ok, if_pos rfl, e5, R.bind_ok, if_pos (by omega), z1]; simp
    · intro y hy
      rcases List.mem_cons.mp hy with rfl | hy
      · exact e6
      · exact z3 y hy
/-- [elt for x in src] where the answers are not told but what they keep, and a state goes on -/
theorem lc_ex {α β : Type} (xs : List α) (enc : α → D) (out : β → D) (I : Sts → Prop) (Q : β → Prop) (hs : evVs Φ src ρ = .ok (ds, ρ1)) (hi : srcf k ds = some (xs.map enc)) (ho : ownAny ρ1 vs = false)
    (st : ∀ a ∈ xs, ∀ ρ, I ρ → ∃ ρ1 b ρ3, assignT t (.val (enc a)) ρ = some ρ1 ∧ rel (ev Φ elt ρ1) = .ok (out b, ρ3) ∧ Q b ∧ I (wipeE ρ3 vs)) (h0 : I (wipeE ρ1 vs)) (hl : xs.length ≤ Line) :
    ∃ (bs : List β) (ρ' : Sts), ev Φ (.lc vs t k src [] elt) ρ = .ok (.own (.lst (bs.map out)), backE ρ1 ρ' vs) ∧ I ρ' ∧ (∀ b ∈ bs, Q b) ∧ bs.length = xs.length := by
  obtain ⟨bs, ρ', e1, e2, e3, e4⟩ := lcl_ex (vs := vs) (t := t) (f := fun ρ => evTs Φ [] ρ) (g := fun ρ => rel (ev Φ elt ρ)) enc out I Q xs [] _ (fun a ha ρ hI => by
    obtain ⟨ρ1, b, ρ3, q1, q2, q3⟩ := st a ha ρ hI
    exact ⟨ρ1, b, ρ3, q1, rfl, q2, q3⟩) h0 (by simpa using hl)
  refine ⟨bs, ρ', ?_, e2, e3, e4⟩
  show ((evVs Φ src ρ).bind fun p => match srcf k p.1 with
    | some items => if ownAny p.2 vs then .bad else
        (noExc (lcLoop vs t (fun ρ => evTs Φ [] ρ) (fun ρ => rel (ev Φ elt ρ)) items [] (wipeE p.2 vs))).map fun q => (Slot.own (.lst q.1), backE p.2 q.2 vs)
    | none => .bad) = _
  rw [hs, R.bind_ok]
  dsimp only
  rw [hi]
  dsimp only
  rw [ho, if_neg Bool.false_ne_true, e1]
  rfl
theorem forl_ty {α : Type} {step : D → Sts → R Sts Out} (enc : α → D) (I : List α → Sts → Prop) : ∀ (post pre : List α) (ρ : Sts),
    (∀ (pre' : List α) (a : α) (post' : List α) (ρ : Sts), pre ++ post = pre' ++ a :: post' → I pre' ρ → ∃ ρ', (step (enc a) ρ = .ok (.nx ρ') ∨ step (enc a) ρ = .ok (.ct ρ')) ∧ I (pre' ++ [a]) ρ') → I pre ρ → ∃ ρ', forR step (post.map enc) ρ = .ok (.nx ρ') ∧ I (pre ++ post) ρ'
  | [], pre, ρ, _, hI => ⟨ρ, rfl, by simpa using hI⟩
  | x :: xs, pre, ρ, hs, hI => by
    obtain ⟨ρ1, e1, e2⟩ := hs pre x xs ρ rfl hI
    obtain ⟨ρ', z1, z2⟩ := forl_ty enc I xs (pre ++ [x]) ρ1 (fun p a q ρ h hI => hs p a q ρ (by simpa using h) hI) e2
    refine ⟨ρ', ?_, by simpa using z2⟩
    rcases e1 with e1 | e1 <;> (rw [List.map_cons]; unfold forR; rw [e1]; exact z1)
/-- for x in src over data of a type, I by what was gone through -/
theorem for_ty {α : Type} (xs : List α) (enc : α → D) (I : List α → Sts → Prop) (hs : evVs Φ src ρ = .ok (ds, ρ1)) (hi : srcf k ds = some (xs.map enc))
    (st : ∀ (pre : List α) (a : α) (post : List α) (ρ : Sts), xs = pre ++ a :: post → I pre ρ → ∃ ρ2 ρ', assignT t (.val (enc a)) ρ = some ρ2 ∧ (evSs Φ b ρ2 = .ok (.nx ρ') ∨ evSs Φ b ρ2 = .ok (.ct ρ')) ∧ I (pre ++ [a]) ρ') (h0 : I [] ρ1) : ∃ ρ', evS Φ (.for t k src b) ρ = .ok (.nx ρ') ∧ I xs ρ' := by
  obtain ⟨ρ', e1, e2⟩ := forl_ty (step := fun x ρ => (R.ofO (assignT t (.val x) ρ)).bind fun ρ1 => evSs Φ b ρ1) enc I xs [] ρ1 (fun p a q ρ h hI => by
    obtain ⟨ρ2, ρ', q1, q2, q3⟩ := st p a q ρ (by simpa using h) hI
    refine ⟨ρ', ?_, q3⟩
    rw [q1, R.ofO_some, R.bind_ok]
    exact q2) h0
  refine ⟨ρ', ?_, by simpa using e2⟩
  show ((evVs Φ src ρ).bind fun p => match srcf k p.1 with
    | some items => forR (fun x ρ => (R.ofO (assignT t (.val x) ρ)).bind fun ρ1 => evSs Φ b ρ1) items p.2
    | none => .bad) = _
  rw [hs, R.bind_ok]
  dsimp only
  rw [hi]
  exact e1
/-- .. as a fold -/
theorem for_fold {α β : Type} (xs : List α) (enc : α → D) (f : β → α → β) (I : Nat → β → Sts → Prop) (b0 : β) (hs : evVs Φ src ρ = .ok (ds, ρ1)) (hi : srcf k ds = some (xs.map enc))
    (st : ∀ (j : Nat) (y : β) (a : α) (ρ : Sts), xs[j]? = some a → I j y ρ → ∃ ρ2 ρ', assignT t (.val (enc a)) ρ = some ρ2 ∧ (evSs Φ b ρ2 = .ok (.nx ρ') ∨ evSs Φ b ρ2 = .ok (.ct ρ')) ∧ I (j + 1) (f y a) ρ') (h0 : I 0 b0 ρ1) : ∃ ρ', evS Φ (.for t k src b) ρ = .ok (.nx ρ') ∧ I xs.length (xs.foldl f b0) ρ' := by
  obtain ⟨ρ', e1, e2⟩ := for_ty (Φ := Φ) (t := t) (b := b) xs enc (fun pre ρ => I pre.length (pre.foldl f b0) ρ) hs hi (fun pre a post ρ h hI => by
    have ha : xs[pre.length]? = some a := by rw [h]; simp
    obtain ⟨ρ2, ρ', q1, q2, q3⟩ := st pre.length _ a ρ ha hI
    refine ⟨ρ2, ρ', q1, q2, ?_⟩
    rw [List.length_append, List.foldl_append]
    exact q3) h0
  exact ⟨ρ', e1, e2⟩
theorem ev_of_eq {e e' : E} {r : R Sts (Slot × Sts)} (h : ev Φ e' ρ = r) (q : e = e') : ev Φ e ρ = r := by rw [q]; exact h
end
/-! ## what can be shown -/
structure NiceD (d : D) (h w : Nat) : Prop where
  pure : d.pure = true
  nice : nice d.py = true
  dep : d.py.depth ≤ h
  wid : wid d.py ≤ w
theorem NiceD.mono {d : D} {h w h' w' : Nat} (n : NiceD d h w) (a : h ≤ h') (b : w ≤ w') : NiceD d h' w' := ⟨n.pure, n.nice, Nat.le_trans n.dep a, Nat.le_trans n.wid b⟩
theorem NiceD.ok {d : D} {h w : Nat} (n : NiceD d h w) (a : h ≤ 64) (b : w ≤ 16777216) : reprOk d = true := reprOk_by n.pure n.nice (Nat.le_trans n.dep a) (Nat.le_trans n.wid b)
theorem niceD_non : NiceD .non 0 5 := ⟨rfl, rfl, Nat.zero_le _, by show 4 ≤ 5; omega⟩
theorem niceD_bl {b : Bool} : NiceD (.bl b) 0 5 := ⟨rfl, rfl, Nat.zero_le _, Nat.le_refl 5⟩
theorem niceD_int {i : Int} (h1 : -1000000000000000000 ≤ i) (h2 : i ≤ 1000000000000000000) : NiceD (.int i) 0 21 := ⟨rfl, by
  show decide (i.natAbs < 10 ^ 20) = true
  exact decide_eq_true (Nat.lt_of_le_of_lt (show i.natAbs ≤ 1000000000000000000 by omega) (by decide)), Nat.zero_le _, Nat.le_refl 21⟩
theorem niceD_str {s : Str} (h : PyData.strOk s = true) : NiceD (.str s) 0 (10 * s.length + 2) := ⟨rfl, h, Nat.zero_le _, Nat.le_refl _⟩
theorem niceD_seq {xs : List D} {h w : Nat} (a : ∀ d ∈ xs, NiceD d h w) : D.pures xs = true ∧ nices (D.pys xs) = true ∧ PyData.depthAll (D.pys xs) ≤ h ∧ wids (D.pys xs) ≤ (w + 2) * xs.length := by
  induction xs with
  | nil => exact ⟨rfl, rfl, Nat.zero_le _, Nat.zero_le _⟩
  | cons x xs ih =>
    have n := a x List.mem_cons_self
    obtain ⟨i1, i2, i3, i4⟩ := ih fun d hd => a d (List.mem_cons_of_mem _ hd)
    refine ⟨?_, ?_, ?_, ?_⟩
    · show (x.pure && D.pures xs) = true
      rw [n.pure, i1]; rfl
    · show (DL.nice x.py && nices (D.pys xs)) = true
      rw [n.nice, i2]; rfl
    · show max x.py.depth (PyData.depthAll (D.pys xs)) ≤ h
      have := n.dep; omega
    · show DL.wid x.py + 2 + wids (D.pys xs) ≤ _
      have := n.wid
      rw [List.length_cons, Nat.mul_succ]; omega
theorem niceD_lst {xs : List D} {h w n : Nat} (a : ∀ d ∈ xs, NiceD d h w) (hn : xs.length ≤ n) : NiceD (.lst xs) (h + 1) ((w + 2) * n + 3) := by
  obtain ⟨i1, i2, i3, i4⟩ := niceD_seq a
  refine ⟨i1, i2, ?_, ?_⟩
  · show PyData.depthAll (D.pys xs) + 1 ≤ h + 1; omega
  · show wids (D.pys xs) + 3 ≤ _
    have := Nat.mul_le_mul_left (w + 2) hn; omega
theorem niceD_tup {xs : List D} {h w n : Nat} (a : ∀ d ∈ xs, NiceD d h w) (hn : xs.length ≤ n) : NiceD (.tup xs) (h + 1) ((w + 2) * n + 3) := by
  obtain ⟨i1, i2, i3, i4⟩ := niceD_seq a
  refine ⟨i1, i2, ?_, ?_⟩
  · show PyData.depthAll (D.pys xs) + 1 ≤ h + 1; omega
  · show wids (D.pys xs) + 3 ≤ _
    have := Nat.mul_le_mul_left (w + 2) hn; omega
/-! ## more rules -/
theorem mkf_lst' {ds : List D} (h : ds.length ≤ 16777216) : mkf .lst ds = some (.own (.lst ds)) := if_pos h
theorem mkf_tup' {ds : List D} (h : ds.length ≤ 16777216) : mkf .tup ds = some (.val (.tup ds)) := if_pos h
@[simp] theorem mkl0 : mkf .lst [] = some (.own (.lst [])) := mkf_lst (by decide)
@[simp] theorem mkl1 {a : D} : mkf .lst [a] = some (.own (.lst [a])) := mkf_lst (by simp [Line])
@[simp] theorem mkl2 {a b : D} : mkf .lst [a, b] = some (.own (.lst [a, b])) := mkf_lst (by simp [Line])
@[simp] theorem mkl3 {a b c : D} : mkf .lst [a, b, c] = some (.own (.lst [a, b, c])) := mkf_lst (by simp [Line])
@[simp] theorem mkl4 {a b c d : D} : mkf .lst [a, b, c, d] = some (.own (.lst [a, b, c, d])) := mkf_lst (by simp [Line])
@[simp] theorem mkl5 {a b c d e : D} : mkf .lst [a, b, c, d, e] = some (.own (.lst [a, b, c, d, e])) := mkf_lst (by simp [Line])
@[simp] theorem mkl6 {a b c d e f : D} : mkf .lst [a, b, c, d, e, f] = some (.own (.lst [a, b, c, d, e, f])) := mkf_lst (by simp [Line])
@[simp] theorem mkl7 {a b c d e f g : D} : mkf .lst [a, b, c, d, e, f, g] = some (.own (.lst [a, b, c, d, e, f, g])) := mkf_lst (by simp [Line])
@[simp] theorem mkl8 {a b c d e f g h : D} : mkf .lst [a, b, c, d, e, f, g, h] = some (.own (.lst [a, b, c, d, e, f, g, h])) := mkf_lst (by simp [Line])
@[simp] theorem mkl9 {a b c d e f g h i : D} : mkf .lst [a, b, c, d, e, f, g, h, i] = some (.own (.lst [a, b, c, d, e, f, g, h, i])) := mkf_lst (by simp [Line])
@[simp] theorem mkl10 {a b c d e f g h i j : D} : mkf .lst [a, b, c, d, e, f, g, h, i, j] = some (.own (.lst [a, b, c, d, e, f, g, h, i, j])) := mkf_lst (by simp [Line])
@[simp] theorem mkt0 : mkf .tup [] = some (.val (.tup [])) := mkf_tup (by decide)
@[simp] theorem mkt1 {a : D} : mkf .tup [a] = some (.val (.tup [a])) := mkf_tup (by simp [Line])
@[simp] theorem mkt2 {a b : D} : mkf .tup [a, b] = some (.val (.tup [a, b])) := mkf_tup (by simp [Line])
@[simp] theorem mkt3 {a b c : D} : mkf .tup [a, b, c] = some (.val (.tup [a, b, c])) := mkf_tup (by simp [Line])
@[simp] theorem mkt4 {a b c d : D} : mkf .tup [a, b, c, d] = some (.val (.tup [a, b, c, d])) := mkf_tup (by simp [Line])
@[simp] theorem mkt5 {a b c d e : D} : mkf .tup [a, b, c, d, e] = some (.val (.tup [a, b, c, d, e])) := mkf_tup (by simp [Line])
@[simp] theorem mkt6 {a b c d e f : D} : mkf .tup [a, b, c, d, e, f] = some (.val (.tup [a, b, c, d, e, f])) := mkf_tup (by simp [Line])
theorem bin_mul {i j : Int} (h : mulOk i j = true) : binf .Mult (.int i) (.int j) = some (.val (.int (i * j))) := if_pos h
theorem bin_div {i j : Int} (h : divOk j = true) : binf .FloorDiv (.int i) (.int j) = some (.val (.int (i.fdiv j))) := if_pos h
theorem bin_mod {i j : Int} (h : j ≠ 0) : binf .Mod (.int i) (.int j) = some (.val (.int (i.fmod j))) := if_pos h
theorem bin_mulT {xs : List D} {k : Int} (h : xs.isEmpty = false ∧ k.natAbs ≤ 1000 ∧ xs.length ≤ 1000) : binf .Mult (.tup xs) (.int k) = some (.val (.tup (List.replicate k.toNat xs).flatten)) := if_pos h
theorem bin_mulL {xs : List D} {k : Int} (h : 0 ≤ k ∧ k.toNat ≤ Line ∧ xs.length * k.toNat ≤ Line) : binf .Mult (.lst xs) (.int k) = some (.own (.lst (List.replicate k.toNat xs).flatten)) := if_pos h
theorem bin_apT {xs ys : List D} (h : xs.length + ys.length ≤ 16777216) : binf .Add (.tup xs) (.tup ys) = some (.val (.tup (xs ++ ys))) := if_pos h
theorem bin_apL {xs ys : List D} (h : xs.length + ys.length ≤ 16777216) : binf .Add (.lst xs) (.lst ys) = some (.own (.lst (xs ++ ys))) := if_pos h
theorem smallI_of' {i : Int} (h : i.natAbs < 18446744073709551616) : smallI i = true := decide_eq_true h
theorem divOk_of' {m : Int} (h : m ≠ 0) (h2 : m.natAbs < 2 ^ 400) : divOk m = true := by
  unfold divOk midI
  rw [decide_eq_true h, decide_eq_true h2]; rfl
theorem sl_tt {a : D} {i j : Int} : opf (.sl true true) [a, .int i, .int j] = slf (some i) (some j) a := Eq.trans rfl rfl
theorem sl_tf {a : D} {i : Int} : opf (.sl true false) [a, .int i] = slf (some i) none a := Eq.trans rfl rfl
theorem sl_ft {a : D} {j : Int} : opf (.sl false true) [a, .int j] = slf none (some j) a := Eq.trans rfl rfl
theorem sl_ff {a : D} : opf (.sl false false) [a] = slf none none a := Eq.trans rfl rfl
@[simp] theorem opf_minL {x y : Int} : opf .min [.lst [.int x, .int y]] = some (.val (.int (if y < x then y else x))) := Eq.trans rfl rfl
@[simp] theorem opf_maxL {x y : Int} : opf .max [.lst [.int x, .int y]] = some (.val (.int (if y > x then y else x))) := Eq.trans rfl rfl
@[simp] theorem opf_min2 {x y : Int} : opf .min [.int x, .int y] = some (.val (.int (if y < x then y else x))) := Eq.trans rfl rfl
@[simp] theorem opf_max2 {x y : Int} : opf .max [.int x, .int y] = some (.val (.int (if y > x then y else x))) := Eq.trans rfl rfl
@[simp] theorem aug_add {i j : Int} : augf .Add (.int i) (.int j) = some (.int (i + j)) := Eq.trans rfl rfl
@[simp] theorem aug_sub {i j : Int} : augf .Sub (.int i) (.int j) = some (.int (i - j)) := Eq.trans rfl rfl
@[simp] theorem is_non {d : D} : cmpf .Is d .non = some d.isNon := by cases d <;> rfl
@[simp] theorem isnot_non {d : D} : cmpf .IsNot d .non = some (!d.isNon) := by cases d <;> rfl
@[simp] theorem isNon_non : D.non.isNon = true := Eq.trans rfl rfl
@[simp] theorem isNon_int {i : Int} : (D.int i).isNon = false := Eq.trans rfl rfl
@[simp] theorem isNon_bl {i : Bool} : (D.bl i).isNon = false := Eq.trans rfl rfl
@[simp] theorem isNon_str {i : Str} : (D.str i).isNon = false := Eq.trans rfl rfl
@[simp] theorem isNon_tup {i : List D} : (D.tup i).isNon = false := Eq.trans rfl rfl
@[simp] theorem isNon_lst {i : List D} : (D.lst i).isNon = false := Eq.trans rfl rfl
theorem ints_d (l : List Int) : intsD (l.map .int) = some l := by
  induction l with
  | nil => rfl
  | cons a l ih => simp [intsD, ih]
@[simp] theorem opf_sum {l : List Int} : opf .sum [.lst (l.map .int)] = some (.val (.int l.sum)) := by
  show i1 ((intsD (l.map .int)).map List.sum) = _
  rw [ints_d]; rfl
@[simp] theorem opf_sumT {l : List Int} : opf .sum [.tup (l.map .int)] = some (.val (.int l.sum)) := by
  show i1 ((intsD (l.map .int)).map List.sum) = _
  rw [ints_d]; rfl
theorem opf_maxI {l : List Int} (h : l ≠ []) : opf .max [.lst (l.map .int)] = some (.val (.int (maxI l))) := by
  show i1 ((intsD (l.map .int)).bind fun ns => if ns.isEmpty then none else some (maxI ns)) = _
  rw [ints_d]
  cases l with
  | nil => exact absurd rfl h
  | cons a l => rfl
theorem opf_minI {l : List Int} (h : l ≠ []) : opf .min [.lst (l.map .int)] = some (.val (.int (minI l))) := by
  show i1 ((intsD (l.map .int)).bind fun ns => if ns.isEmpty then none else some (minI ns)) = _
  rw [ints_d]
  cases l with
  | nil => exact absurd rfl h
  | cons a l => rfl
theorem opf_maxT {l : List Int} (h : l ≠ []) : opf .max [.tup (l.map .int)] = some (.val (.int (maxI l))) := by
  show i1 ((intsD (l.map .int)).bind fun ns => if ns.isEmpty then none else some (maxI ns)) = _
  rw [ints_d]
  cases l with
  | nil => exact absurd rfl h
  | cons a l => rfl
theorem opf_minT {l : List Int} (h : l ≠ []) : opf .min [.tup (l.map .int)] = some (.val (.int (minI l))) := by
  show i1 ((intsD (l.map .int)).bind fun ns => if ns.isEmpty then none else some (minI ns)) = _
  rw [ints_d]
  cases l with
  | nil => exact absurd rfl h
  | cons a l => rfl
theorem bls_d (l : List Bool) : blsD (l.map .bl) = some l := by
  induction l with
  | nil => rfl
  | cons a l ih => simp [blsD, ih]
@[simp] theorem opf_all {l : List Bool} : opf .all [.lst (l.map .bl)] = some (.val (.bl (l.all id))) := by
  show b1 ((blsD (l.map .bl)).map fun bs => bs.all id) = _
  rw [bls_d]; rfl
@[simp] theorem opf_any {l : List Bool} : opf .any [.lst (l.map .bl)] = some (.val (.bl (l.any id))) := by
  show b1 ((blsD (l.map .bl)).map fun bs => bs.any id) = _
  rw [bls_d]; rfl
theorem zip_tt {xs ys : List D} : srcf .zip [.tup xs, .tup ys] = some (xs.zipWith (fun x y => D.tup [x, y]) ys) := Eq.trans rfl rfl
theorem zip_ll {xs ys : List D} : srcf .zip [.lst xs, .lst ys] = some (xs.zipWith (fun x y => D.tup [x, y]) ys) := Eq.trans rfl rfl
theorem zip_lt {xs ys : List D} : srcf .zip [.lst xs, .tup ys] = some (xs.zipWith (fun x y => D.tup [x, y]) ys) := Eq.trans rfl rfl
theorem zip_tl {xs ys : List D} : srcf .zip [.tup xs, .lst ys] = some (xs.zipWith (fun x y => D.tup [x, y]) ys) := Eq.trans rfl rfl
theorem zip_map {α β : Type} (f : α → D) (g : β → D) (xs : List α) (ys : List β) : (xs.map f).zipWith (fun x y => D.tup [x, y]) (ys.map g) = (xs.zip ys).map fun p => D.tup [f p.1, g p.2] := by
  rw [List.zipWith_map]
  induction xs generalizing ys with
  | nil => rfl
  | cons x xs ih => cases ys with
    | nil => rfl
    | cons y ys => simp [ih]
/-! ## lists by their places -/
theorem at_rng {α : Type} {f : Nat → α} {n i : Nat} {j : Int} (h : i < n) (e : j = i) : atI ((List.range n).map f) j = some (f i) := atI_of e (by simp [h])
theorem ixN_of {n i : Nat} {j : Int} (h : i < n) (e : j = i) : ixN n j = some i := by subst e; exact ixN_nat h
theorem set_rng {α : Type} {f : Nat → α} {n e : Nat} {v : α} : ((List.range n).map f).set e v = (List.range n).map (fun i => if i = e then v else f i) := by
  apply List.ext_getElem?
  intro i
  by_cases h : e = i
  · subst h
    rw [List.getElem?_set_self']
    by_cases hn : e < n <;> simp [hn]
  · rw [List.getElem?_set_ne h, List.getElem?_map, List.getElem?_map]
    by_cases hn : i < n
    · rw [List.getElem?_range hn]; simp [Ne.symm h]
    · simp [hn]
theorem seti_rng {f : Nat → D} {n e : Nat} {j : Int} {v : D} (h : e < n) (q : j = e) : setf (.lst ((List.range n).map f)) (.int j) v = some (.lst ((List.range n).map (fun i => if i = e then v else f i))) := by
  rw [setf_l, List.length_map, List.length_range, ixN_of h q]
  show some (D.lst _) = _
  rw [set_rng]
theorem rep_rng {α : Type} {v : α} {n : Nat} : (List.replicate n [v]).flatten = (List.range n).map (fun _ => v) := by
  induction n with
  | zero => rfl
  | succ n ih => rw [List.replicate_succ', List.flatten_append, ih, List.range_succ, List.map_append]; rfl
theorem atI_end {α : Type} {xs : List α} {x : α} : atI (xs ++ [x]) (-1) = some x := atI_last xs x
theorem enum_l {xs : List D} : srcf .enum [.lst xs] = some ((List.range xs.length).zipWith (fun (i : Nat) x => D.tup [.int i, x]) xs) := Eq.trans rfl rfl
theorem enum_map {α : Type} (f : α → D) (xs : List α) : srcf .enum [.lst (xs.map f)] = some (((List.range xs.length).zip xs).map fun p => D.tup [.int (p.1 : Nat), f p.2]) := by
  rw [enum_l, List.length_map]
  congr 1
  have := zip_map (fun i : Nat => D.int i) f (List.range xs.length) xs
  rw [← this, List.zipWith_map_left]
theorem rng1 {n : Nat} (h : n < 2 ^ 62) {j : Int} (e : j = n) : srcf .rng [.int j] = some ((List.range n).map fun k => D.int (k : Nat)) := by subst e; exact src_rng h
/-- range(i, j) by what is counted -/
theorem rng2 {a n : Nat} {i j : Int} (e : i = a) (q : j = a + n) (h : a + n < 2 ^ 62) : srcf .rng [.int i, .int j] = some ((List.range n).map fun k => D.int ((a + k : Nat) : Int)) := by
  subst e q
  rw [src_rng2 (by omega)]
  have : ((a : Int) + n - a).toNat = n := by omega
  rw [this]
  congr 1
/-- [x] * n, (x,) * n -/
theorem bin_rep1 {x : D} {n : Nat} {j : Int} (h : n ≤ 1000000) (e : j = n) : binf .Mult (.lst [x]) (.int j) = some (.own (.lst ((List.range n).map fun _ => x))) := by
  subst e
  have c : 0 ≤ (n : Int) ∧ (n : Int).toNat ≤ Line ∧ [x].length * (n : Int).toNat ≤ Line := by
    have e1 : [x].length * (n : Int).toNat = n := by simp
    rw [e1, Int.toNat_natCast]
    exact ⟨by omega, Nat.le_trans h (by decide), Nat.le_trans h (by decide)⟩
  rw [bin_mulL c, Int.toNat_natCast, rep_rng]
theorem bin_repT1 {x : D} {n : Nat} {j : Int} (h : n ≤ 1000) (e : j = n) : binf .Mult (.tup [x]) (.int j) = some (.val (.tup ((List.range n).map fun _ => x))) := by
  subst e
  rw [bin_mulT ⟨rfl, by omega, by simp⟩, Int.toNat_natCast, rep_rng]
/-! ## slices -/
theorem cut_ij {xs : List D} {i j : Nat} (hi : i ≤ xs.length) (hj : j ≤ xs.length) : cutD xs (some (i : Int)) (some (j : Int)) = (xs.drop i).take (j - i) := by
  unfold cutD
  rw [HT.sIx_nat, HT.sIx_nat, Nat.min_eq_left hi, Nat.min_eq_left hj]
theorem cut_0j {xs : List D} {j : Nat} : cutD xs none (some (j : Int)) = xs.take j := by
  unfold cutD
  rw [HT.sIx_nat, HT.sIx_none, List.drop_zero, Nat.sub_zero]
  by_cases h : j ≤ xs.length
  · rw [Nat.min_eq_left h]
  · rw [Nat.min_eq_right (by omega), List.take_of_length_le (Nat.le_refl _), List.take_of_length_le (by omega)]
theorem cut_i0 {xs : List D} {i : Nat} : cutD xs (some (i : Int)) none = xs.drop i := by
  unfold cutD
  rw [HT.sIx_nat, HT.sIx_none]
  by_cases h : i ≤ xs.length
  · rw [Nat.min_eq_left h, List.take_of_length_le (by rw [List.length_drop]; omega)]
  · rw [Nat.min_eq_right (by omega), Nat.sub_self, List.take_zero, List.drop_eq_nil_of_le (by omega)]
theorem sl_ttL {xs : List D} {i j : Nat} {a b : Int} (ea : a = i) (eb : b = j) (hi : i ≤ xs.length) (hj : j ≤ xs.length) : opf (.sl true true) [.lst xs, .int a, .int b] = some (.own (.lst ((xs.drop i).take (j - i)))) := by
  subst ea eb; rw [← cut_ij hi hj]; rfl
theorem sl_ttT {xs : List D} {i j : Nat} {a b : Int} (ea : a = i) (eb : b = j) (hi : i ≤ xs.length) (hj : j ≤ xs.length) : opf (.sl true true) [.tup xs, .int a, .int b] = some (.val (.tup ((xs.drop i).take (j - i)))) := by
  subst ea eb; rw [← cut_ij hi hj]; rfl
theorem sl_ftL {xs : List D} {j : Nat} {b : Int} (eb : b = j) : opf (.sl false true) [.lst xs, .int b] = some (.own (.lst (xs.take j))) := by
  subst eb; rw [← cut_0j]; rfl
theorem sl_ftT {xs : List D} {j : Nat} {b : Int} (eb : b = j) : opf (.sl false true) [.tup xs, .int b] = some (.val (.tup (xs.take j))) := by
  subst eb; rw [← cut_0j]; rfl
theorem sl_tfL {xs : List D} {i : Nat} {a : Int} (ea : a = i) : opf (.sl true false) [.lst xs, .int a] = some (.own (.lst (xs.drop i))) := by
  subst ea; rw [← cut_i0]; rfl
theorem sl_tfT {xs : List D} {i : Nat} {a : Int} (ea : a = i) : opf (.sl true false) [.tup xs, .int a] = some (.val (.tup (xs.drop i))) := by
  subst ea; rw [← cut_i0]; rfl
/-- all([..]) where all are true -/
theorem all_true {α : Type} {xs : List α} : opf .all [.lst (xs.map fun _ => D.bl true)] = some (.val (.bl true)) := by
  have h := opf_all (l := xs.map fun _ => true)
  rw [List.map_map] at h
  refine Eq.trans h ?_
  congr 3
  induction xs with
  | nil => rfl
  | cons x xs ih => simp
theorem rngN {j : Int} (h : j.natAbs < 2 ^ 62) : srcf .rng [.int j] = some ((List.range j.toNat).map fun k => D.int (k : Nat)) := by
  show rngf 0 j = _
  unfold rngf
  rw [if_pos ⟨by decide, h⟩, Int.sub_zero]
  simp
theorem rngN2 {a : Nat} {i j : Int} (e : i = a) (h : j.natAbs < 2 ^ 62) (h2 : a < 2 ^ 62) : srcf .rng [.int i, .int j] = some ((List.range (j - a).toNat).map fun k => D.int ((a + k : Nat) : Int)) := by
  subst e
  rw [src_rng2 ⟨by omega, h⟩]
  congr 1
theorem rev_l {xs : List D} : opf .rev [.lst xs] = some (.own (.lst xs.reverse)) := Eq.trans rfl rfl
theorem cmp_nsame {d : D} (h : d.okd = true) : cmpf .NotEq d d = some false := by
  have gen : (if (d.okd && d.okd) = true then some (!d.eqv d) else none) = some false := by
    rw [h, eqv_okd h]; rfl
  cases d with
  | str s => show some (!decide (s = s)) = some false; simp
  | _ => exact gen
@[simp] theorem cmp_nnon : cmpf .NotEq (.lst [.non]) (.lst [.non]) = some false := cmp_nsame (by
  show (D.pure (.lst [.non]) && SeqAt.shaped (D.lst [.non]).py) = true
  decide +kernel)
/-! ## loops that break off or answer -/
section
variable {Φ : Nat → Fn} {t : T} {k : Sk} {src : List E} {ρ ρ1 : Sts} {ds : List D} {b : List S}
/-- what a turn of a loop does -/
def Tn (r : R Sts Out) (I B : Sts → Prop) (Q : Slot → Sts → Prop) : Prop :=
  (∃ ρ', (r = .ok (.nx ρ') ∨ r = .ok (.ct ρ')) ∧ I ρ') ∨ (∃ ρ', r = .ok (.bk ρ') ∧ B ρ') ∨ (∃ s ρ', r = .ok (.rt s ρ') ∧ Q s ρ')
/-- what a loop does -/
def En (r : R Sts Out) (I : Sts → Prop) (Q : Slot → Sts → Prop) : Prop :=
  (∃ ρ', r = .ok (.nx ρ') ∧ I ρ') ∨ (∃ s ρ', r = .ok (.rt s ρ') ∧ Q s ρ')
theorem forl_all {α : Type} {step : D → Sts → R Sts Out} (enc : α → D) (I : List α → Sts → Prop) (B : Sts → Prop) (Q : Slot → Sts → Prop) : ∀ (post pre : List α) (ρ : Sts),
    (∀ (pre' : List α) (a : α) (post' : List α) (ρ : Sts), pre ++ post = pre' ++ a :: post' → I pre' ρ → Tn (step (enc a) ρ) (I (pre' ++ [a])) B Q) → I pre ρ → En (forR step (post.map enc) ρ) (fun ρ' => I (pre ++ post) ρ' ∨ B ρ') Q
  | [], pre, ρ, _, hI => .inl ⟨ρ, rfl, .inl (by simpa using hI)⟩
  | x :: xs, pre, ρ, hs, hI => by
    rcases hs pre x xs ρ rfl hI with ⟨ρ1, e1, e2⟩ | ⟨ρ1, e1, e2⟩ | ⟨s, ρ1, e1, e2⟩
    · have z := forl_all enc I B Q xs (pre ++ [x]) ρ1 (fun p a q ρ h hI => hs p a q ρ (by simpa using h) hI) e2
      rw [List.append_assoc, List.singleton_append] at z
      have g : forR step ((x :: xs).map enc) ρ = forR step (xs.map enc) ρ1 := by
        rcases e1 with e1 | e1 <;> (rw [List.map_cons]; unfold forR; rw [e1]; cases xs <;> rfl)
      rw [g]; exact z
    · refine .inl ⟨ρ1, ?_, .inr e2⟩
      rw [List.map_cons]; unfold forR; rw [e1]
    · refine .inr ⟨s, ρ1, ?_, e2⟩
      rw [List.map_cons]; unfold forR; rw [e1]
theorem for_all {α : Type} (xs : List α) (enc : α → D) (I : List α → Sts → Prop) (B : Sts → Prop) (Q : Slot → Sts → Prop) (hs : evVs Φ src ρ = .ok (ds, ρ1)) (hi : srcf k ds = some (xs.map enc))
    (st : ∀ (pre : List α) (a : α) (post : List α) (ρ : Sts), xs = pre ++ a :: post → I pre ρ → ∃ ρ2, assignT t (.val (enc a)) ρ = some ρ2 ∧ Tn (evSs Φ b ρ2) (I (pre ++ [a])) B Q) (h0 : I [] ρ1) : En (evS Φ (.for t k src b) ρ) (fun ρ' => I xs ρ' ∨ B ρ') Q := by
  have z := forl_all (step := fun x ρ => (R.ofO (assignT t (.val x) ρ)).bind fun ρ1 => evSs Φ b ρ1) enc I B Q xs [] ρ1 (fun p a q ρ h hI => by
    obtain ⟨ρ2, q1, q2⟩ := st p a q ρ (by simpa using h) hI
    rw [q1, R.ofO_some, R.bind_ok]
    exact q2) h0
  have g : evS Φ (.for t k src b) ρ = forR (fun x ρ => (R.ofO (assignT t (.val x) ρ)).bind fun ρ1 => evSs Φ b ρ1) (xs.map enc) ρ1 := by
    show ((evVs Φ src ρ).bind fun p => match srcf k p.1 with
      | some items => forR (fun x ρ => (R.ofO (assignT t (.val x) ρ)).bind fun ρ1 => evSs Φ b ρ1) items p.2
      | none => .bad) = _
    rw [hs, R.bind_ok]
    dsimp only
    rw [hi]
  rw [g]
  simpa using z
/-- a while that may break off or answer -/
theorem whl_all {c : E} (I : Nat → Sts → Prop) (Z : Sts → Prop) (Q : Slot → Sts → Prop)
    (turn : ∀ m ρ, I m ρ → (∃ ρ1, tru (rel (ev Φ c ρ)) = .ok (false, ρ1) ∧ Z ρ1) ∨ (∃ ρ1, tru (rel (ev Φ c ρ)) = .ok (true, ρ1) ∧ Tn (evSs Φ b ρ1) (fun ρ2 => ∃ m', m' < m ∧ I m' ρ2) Z Q)) :
    ∀ (f m : Nat) (ρ : Sts), I m ρ → m < f → En (whlR (fun ρ => tru (rel (ev Φ c ρ))) (fun ρ => evSs Φ b ρ) f ρ) Z Q
  | 0, m, ρ, _, h => absurd h (Nat.not_lt_zero _)
  | f + 1, m, ρ, hI, h => by
    rcases turn m ρ hI with ⟨ρ1, e1, q⟩ | ⟨ρ1, e1, tn⟩
    · refine .inl ⟨ρ1, ?_, q⟩
      unfold whlR
      rw [e1]; rfl
    · rcases tn with ⟨ρ2, e2, m', hm, hI'⟩ | ⟨ρ2, e2, q⟩ | ⟨s, ρ2, e2, q⟩
      · have z := whl_all I Z Q turn f m' ρ2 hI' (by omega)
        have g : whlR (fun ρ => tru (rel (ev Φ c ρ))) (fun ρ => evSs Φ b ρ) (f + 1) ρ = whlR (fun ρ => tru (rel (ev Φ c ρ))) (fun ρ => evSs Φ b ρ) f ρ2 := by
          conv => lhs; unfold whlR
          rw [e1, R.bind_ok]
          dsimp only
          rw [if_pos rfl]
          rcases e2 with e2 | e2 <;> rw [e2]
        rw [g]; exact z
      · refine .inl ⟨ρ2, ?_, q⟩
        unfold whlR
        rw [e1, R.bind_ok]
        dsimp only
        rw [if_pos rfl, e2]
      · refine .inr ⟨s, ρ2, ?_, q⟩
        unfold whlR
        rw [e1, R.bind_ok]
        dsimp only
        rw [if_pos rfl, e2]
theorem evS_whlx {c : E} {m : Nat} (I : Nat → Sts → Prop) (Z : Sts → Prop) (Q : Slot → Sts → Prop)
    (turn : ∀ m ρ, I m ρ → (∃ ρ1, tru (rel (ev Φ c ρ)) = .ok (false, ρ1) ∧ Z ρ1) ∨ (∃ ρ1, tru (rel (ev Φ c ρ)) = .ok (true, ρ1) ∧ Tn (evSs Φ b ρ1) (fun ρ2 => ∃ m', m' < m ∧ I m' ρ2) Z Q)) (h0 : I m ρ) (hm : m < fuel) : En (evS Φ (.whl c b) ρ) Z Q :=
  whl_all I Z Q turn fuel m ρ h0 hm
end

/-! ## comprehensions whose answers belong to what is walked -/
section
variable {Φ : Nat → Fn} {vs : List Nat} {t : T} {k : Sk} {src : List E} {elt : E} {ρ ρ1 : Sts} {ds : List D}
theorem lcl_pi {α β : Type} {f : Sts → R Sts (Bool × Sts)} {g : Sts → R Sts (D × Sts)} (enc : α → D) (out : β → D) (π : β → α) (I : Sts → Prop) (Q : β → Prop) : ∀ (xs : List α) (acc : List D) (ρ : Sts),
    (∀ a ∈ xs, ∀ ρ, I ρ → ∃ ρ1 b ρ3, assignT t (.val (enc a)) ρ = some ρ1 ∧ f ρ1 = .ok (true, ρ1) ∧ g ρ1 = .ok (out b, ρ3) ∧ Q b ∧ π b = a ∧ I (wipeE ρ3 vs)) → I ρ → acc.length + xs.length ≤ Line →
      ∃ (bs : List β) (ρ' : Sts), lcLoop vs t f g (xs.map enc) acc ρ = .ok (acc ++ bs.map out, ρ') ∧ I ρ' ∧ (∀ b ∈ bs, Q b) ∧ bs.map π = xs
  | [], acc, ρ, _, hI, _ => ⟨[], ρ, by simp, hI, by simp, rfl⟩
  | x :: xs, acc, ρ, hs, hI, hl => by
    obtain ⟨ρ1, d, ρ3, e1, e2, e5, e6, e8, e7⟩ := hs x List.mem_cons_self ρ hI
    have rest := fun y hy => hs y (List.mem_cons_of_mem _ hy)
    rw [List.length_cons] at hl
    obtain ⟨bs, ρ', z1, z2, z3, z4⟩ := lcl_pi enc out π I Q xs (acc ++ [out d]) _ rest e7 (by simp; omega)
    refine ⟨d :: bs, ρ', ?_, z2, ?_, by simp [z4, e8]⟩
    · rw [List.map_cons, lc_step, e1, R.ofO_some, R.bind_ok, e2, R.bind_ok, if_pos rfl, e5, R.bind_ok, if_pos (by omega), z1]; simp
    · intro y hy
      rcases List.mem_cons.mp hy with rfl | hy
      · exact e6
      · exact z3 y hy
theorem lc_pi {α β : Type} (xs : List α) (enc : α → D) (out : β → D) (π : β → α) (I : Sts → Prop) (Q : β → Prop) (hs : evVs Φ src ρ = .ok (ds, ρ1)) (hi : srcf k ds = some (xs.map enc)) (ho : ownAny ρ1 vs = false)
    (st : ∀ a ∈ xs, ∀ ρ, I ρ → ∃ ρ1 b ρ3, assignT t (.val (enc a)) ρ = some ρ1 ∧ rel (ev Φ elt ρ1) = .ok (out b, ρ3) ∧ Q b ∧ π b = a ∧ I (wipeE ρ3 vs)) (h0 : I (wipeE ρ1 vs)) (hl : xs.length ≤ Line) :
    ∃ (bs : List β) (ρ' : Sts), ev Φ (.lc vs t k src [] elt) ρ = .ok (.own (.lst (bs.map out)), backE ρ1 ρ' vs) ∧ I ρ' ∧ (∀ b ∈ bs, Q b) ∧ bs.map π = xs := by
  obtain ⟨bs, ρ', e1, e2, e3, e4⟩ := lcl_pi (vs := vs) (t := t) (f := fun ρ => evTs Φ [] ρ) (g := fun ρ => rel (ev Φ elt ρ)) enc out π I Q xs [] _ (fun a ha ρ hI => by
    obtain ⟨ρ1, b, ρ3, q1, q2, q3⟩ := st a ha ρ hI
    exact ⟨ρ1, b, ρ3, q1, rfl, q2, q3⟩) h0 (by simpa using hl)
  refine ⟨bs, ρ', ?_, e2, e3, e4⟩
  show ((evVs Φ src ρ).bind fun p => match srcf k p.1 with
    | some items => if ownAny p.2 vs then .bad else
        (noExc (lcLoop vs t (fun ρ => evTs Φ [] ρ) (fun ρ => rel (ev Φ elt ρ)) items [] (wipeE p.2 vs))).map fun q => (Slot.own (.lst q.1), backE p.2 q.2 vs)
    | none => .bad) = _
  rw [hs, R.bind_ok]
  dsimp only
  rw [hi]
  dsimp only
  rw [ho, if_neg Bool.false_ne_true, e1]
  rfl
end
/-! ## tables of whole numbers -/
def kT (v : Int) : Ky × D := (.inl v, .bl true)
def insI (l : List Int) (v : Int) : List Int := if v ∈ l then l else l ++ [v]
theorem pairs_T (l : List Int) : pairsKD (l.map fun v => D.tup [.int v, .bl true]) = some (l.map kT) := by
  induction l with
  | nil => rfl
  | cons v l ih =>
    show (match keyD (.int v), pairsKD (l.map fun v => D.tup [.int v, .bl true]) with
      | some k, some l => some ((k, D.bl true) :: l)
      | _, _ => none) = _
    rw [ih]; rfl
theorem put_T {l : List Int} {v : Int} : putKD (l.map kT) (.inl v) (.bl true) = (insI l v).map kT := by
  unfold putKD insI
  have a : ((l.map kT).any fun kv => decide (kv.1 = .inl v)) = decide (v ∈ l) := by
    rw [List.any_map]
    induction l with
    | nil => rfl
    | cons x l ih =>
      rw [List.any_cons, ih]
      by_cases c : x = v
      · simp [kT, c]
      · have c' : ¬ (v = x) := fun h => c h.symm
        simp [kT, c, c']
  rw [a]
  by_cases c : v ∈ l
  · rw [if_pos (by simpa using c), if_pos c, List.map_map]
    refine List.map_congr_left fun x _ => ?_
    by_cases q : x = v
    · simp [kT, q]
    · simp [kT, q]
  · rw [if_neg (by simpa using c), if_neg c, List.map_append]; rfl
theorem merge_T : ∀ (vs l : List Int), mergeKD (l.map kT) (vs.map kT) = (vs.foldl insI l).map kT
  | [], l => rfl
  | v :: vs, l => by
    show mergeKD (putKD (l.map kT) (.inl v) (.bl true)) (vs.map kT) = _
    rw [put_T, merge_T vs (insI l v)]; rfl
theorem intKs_T (l : List Int) : intKs (l.map kT) = some l := by
  induction l with
  | nil => rfl
  | cons v l ih => show (intKs (l.map kT)).map (v :: ·) = _; rw [ih]; rfl
theorem ins_nd : ∀ (vs l : List Int), l.Nodup → (vs.foldl insI l).Nodup
  | [], l, h => h
  | v :: vs, l, h => by
    refine ins_nd vs (insI l v) ?_
    unfold insI
    split
    · exact h
    · rename_i c
      rw [List.nodup_append]
      exact ⟨h, by simp, fun a ha b hb => by rw [List.mem_singleton.mp hb]; exact fun e => c (e ▸ ha)⟩
theorem ins_len : ∀ (vs l : List Int), (vs.foldl insI l).length ≤ l.length + vs.length ∧ l.length ≤ (vs.foldl insI l).length
  | [], l => ⟨Nat.le_refl _, Nat.le_refl _⟩
  | v :: vs, l => by
    obtain ⟨a, b⟩ := ins_len vs (insI l v)
    have c : l.length ≤ (insI l v).length ∧ (insI l v).length ≤ l.length + 1 := by unfold insI; split <;> simp
    rw [List.length_cons]
    show (vs.foldl insI (insI l v)).length ≤ _ ∧ _ ≤ (vs.foldl insI (insI l v)).length
    omega
theorem ins_mem : ∀ (vs l : List Int) (x : Int), x ∈ vs.foldl insI l → x ∈ l ∨ x ∈ vs
  | [], l, x, h => .inl h
  | v :: vs, l, x, h => by
    rcases ins_mem vs (insI l v) x h with h | h
    · unfold insI at h
      split at h
      · exact .inl h
      · rcases List.mem_append.mp h with h | h
        · exact .inl h
        · exact .inr (by rw [List.mem_singleton.mp h]; exact List.mem_cons_self)
    · exact .inr (List.mem_cons_of_mem _ h)
/-- sorted(dict([(v, True), ..])) -/
theorem sort_T {l : List Int} (h0 : l ≠ []) (h1 : l.length < 64) : opf .dict [.lst (l.map fun v => D.tup [.int v, .bl true])] = some (.own (.dic ((l.foldl insI []).map kT))) ∧
    ∃ xs : List Int, opf .sort [.dic ((l.foldl insI []).map kT)] = some (.own (.lst (xs.map .int))) ∧ xs.Pairwise (· < ·) ∧ (∀ x ∈ xs, x ∈ l) ∧ 1 ≤ xs.length ∧ xs.length ≤ l.length := by
  have il := ins_len l []
  rw [List.length_nil] at il
  refine ⟨?_, sortI (l.foldl insI []), ?_, ?_, fun x hx => ?_, ?_, ?_⟩
  · show (pairsKD _).map _ = _
    rw [pairs_T]
    show some (Slot.own (.dic (mergeKD ([].map kT) (l.map kT)))) = _
    rw [merge_T]
  · show (intKs _).bind _ = _
    rw [intKs_T]
    exact if_pos (by omega)
  · have nd := (sortI_perm (l.foldl insI [])).nodup_iff.mpr (ins_nd l [] List.nodup_nil)
    have pw := sortI_pw (l.foldl insI [])
    exact (pw.and nd).imp fun ⟨a, b⟩ => by omega
  · have := (sortI_perm (l.foldl insI [])).mem_iff.mp hx
    rcases ins_mem l [] x this with h | h
    · cases h
    · exact h
  · rw [(sortI_perm _).length_eq]
    cases l with
    | nil => exact absurd rfl h0
    | cons v l =>
      have := (ins_len l (insI [] v)).2
      have q : (insI [] v).length = 1 := rfl
      show 1 ≤ (l.foldl insI (insI [] v)).length
      omega
  · rw [(sortI_perm _).length_eq]; omega
end DL
namespace W
open PySem DL L2
/- 0 is_integer: slots 0:value -/
def n0 : List S := [(.ret (.and (.op (.isi "int") [(.var 0)]) (.ife (.op (.isi "bool") [(.var 0)]) (.lit (.bl false)) (.lit (.bl true)))))]
def D0 : Def := ⟨[false], 1, false, n0⟩
theorem P0 {k : Nat} : phi tab (k+1) 0 = runD (phi tab k) D0 := rfl
/- 1 check_stops: slots 0:stops 1:last 2:stop -/
def BD1_0 : List S := [(.ite (.or (.ife (.op (.isi "tuple") [(.var 2)]) (.lit (.bl false)) (.lit (.bl true))) (.or (.op (.cmp .NotEq) [(.op .len [(.var 2)]), (.lit (.int 2))]) (.or (.ife (.call 0 [false] [(.op .ix [(.var 2), (.lit (.int 0))])]) (.lit (.bl false)) (.lit (.bl true))) (.ife (.op (.isi "str") [(.op .ix [(.var 2), (.lit (.int 1))])]) (.lit (.bl false)) (.lit (.bl true)))))) [(.raise "ArgumentError" (.lit (.str "stops")))] []), (.ite (.or (.ife (.chain (.var 1) .Lt (.op .ix [(.var 2), (.lit (.int 0))]) .LtE (.lit (.int 100000))) (.lit (.bl false)) (.lit (.bl true))) (.op (.cmp .NotIn) [(.op .ix [(.var 2), (.lit (.int 1))]), (.lit (.tup [(.str "left"), (.str "right"), (.str "middle"), (.str "sign")]))])) [(.raise "ArgumentError" (.lit (.str "stops")))] []), (.asg (.name 1 false) (.op .ix [(.var 2), (.lit (.int 0))]))]
def FR1_0 : S := .for (.name 2 false) .it [(.var 0)] BD1_0
def n1 : List S := [(.ite (.or (.ife (.op (.isi "tuple") [(.var 0)]) (.lit (.bl false)) (.lit (.bl true))) (.ife (.chain (.lit (.int 1)) .LtE (.op .len [(.var 0)]) .LtE (.lit (.int 20))) (.lit (.bl false)) (.lit (.bl true)))) [(.raise "ArgumentError" (.lit (.str "stops")))] []),
  (.asg (.name 1 false) (.op .neg [(.lit (.int 1))])),
  FR1_0]
def D1 : Def := ⟨[false], 3, false, n1⟩
theorem P1 {k : Nat} : phi tab (k+1) 1 = runD (phi tab k) D1 := rfl
/- 2 check_fields: slots 0:fields 1:field 2:part -/
def EL2_0 : E := (.call 0 [false] [(.var 2)])
def LC2_0 : E := .lc [2] (.name 2 false) .it [(.var 1)] [] EL2_0
@[simp] theorem bwLC2_0 {r : R Sts (D × Sts)} {ρ : Sts} : bw LC2_0 ρ r = r.map fun p => (.dat p.1, p.2) := Eq.trans rfl rfl
def BD2_1 : List S := [(.ite (.or (.ife (.op (.isi "tuple") [(.var 1)]) (.lit (.bl false)) (.lit (.bl true))) (.or (.op (.cmp .NotEq) [(.op .len [(.var 1)]), (.lit (.int 2))]) (.ife (.op .all [LC2_0]) (.lit (.bl false)) (.lit (.bl true))))) [(.raise "ArgumentError" (.lit (.str "fields")))] []), (.ite (.ife (.chain3 (.lit (.int 0)) .LtE (.op .ix [(.var 1), (.lit (.int 1))]) .LtE (.op .ix [(.var 1), (.lit (.int 0))]) .LtE (.lit (.int 100000))) (.lit (.bl false)) (.lit (.bl true))) [(.raise "ArgumentError" (.lit (.str "fields")))] [])]
def FR2_1 : S := .for (.name 1 false) .it [(.var 0)] BD2_1
def n2 : List S := [(.ite (.or (.ife (.op (.isi "tuple") [(.var 0)]) (.lit (.bl false)) (.lit (.bl true))) (.op (.cmp .Gt) [(.op .len [(.var 0)]), (.lit (.int 20))])) [(.raise "ArgumentError" (.lit (.str "fields")))] []),
  FR2_1]
def D2 : Def := ⟨[false], 3, false, n2⟩
theorem P2 {k : Nat} : phi tab (k+1) 2 = runD (phi tab k) D2 := rfl
/- 3 wanted: slots 0:stop 1:field 2:place 3:way 4:width 5:ahead -/
def n3 : List S := [(.asg (.tup [(.name 2 false), (.name 3 false)]) (.var 0)),
  (.asg (.tup [(.name 4 false), (.name 5 false)]) (.var 1)),
  (.ite (.op (.cmp .Eq) [(.var 3), (.lit (.str "left"))]) [(.reto 2)] []),
  (.ite (.op (.cmp .Eq) [(.var 3), (.lit (.str "right"))]) [(.ret (.op (.bin .Sub) [(.var 2), (.var 4)]))] []),
  (.ret (.ife (.op (.cmp .Eq) [(.var 3), (.lit (.str "middle"))]) (.op (.bin .Sub) [(.var 2), (.op (.bin .FloorDiv) [(.var 4), (.lit (.int 2))])]) (.op (.bin .Sub) [(.var 2), (.var 5)])))]
def D3 : Def := ⟨[false, false], 6, false, n3⟩
theorem P3 {k : Nat} : phi tab (k+1) 3 = runD (phi tab k) D3 := rfl
/- 4 set_fields: slots 0:stops 1:fields 2:found* 3:end 4:used 5:field 6:left 7:place 8:number -/
def EL4_0 : E := (.var 8)
def IF4_0 : List E := [(.op (.cmp .GtE) [(.op .ix [(.op .ix [(.var 0), (.var 8)]), (.lit (.int 0))]), (.var 3)])]
def LC4_0 : E := .lc [8] (.name 8 false) .rng [(.op (.bin .Add) [(.var 4), (.lit (.int 1))]), (.op .len [(.var 0)])] IF4_0 EL4_0
@[simp] theorem bwLC4_0 {r : R Sts (D × Sts)} {ρ : Sts} : bw LC4_0 ρ r = r.map fun p => (.dat p.1, p.2) := Eq.trans rfl rfl
def BD4_1 : List S := [(.asg (.name 6 false) LC4_0), (.ite (.ife (.op .tru [(.var 6)]) (.lit (.bl false)) (.lit (.bl true))) [(.ret (.op (.bin .Add) [(.op .tuple [(.var 2)]), (.mk .tup [(.lit .non)])]))] []), (.asg (.name 4 false) (.op .ix [(.var 6), (.lit (.int 0))])), (.asg (.name 7 false) (.op .max [(.var 3), (.call 3 [false, false] [(.op .ix [(.var 0), (.var 4)]), (.var 5)])])), (.exp (.mu .append 2 [(.mk .tup [(.var 4), (.var 7)])])), (.asg (.name 3 false) (.op (.bin .Add) [(.var 7), (.op .ix [(.var 5), (.lit (.int 0))])]))]
def FR4_1 : S := .for (.name 5 false) .it [(.var 1)] BD4_1
def n4 : List S := [(.exp (.call 1 [false] [(.var 0)])),
  (.exp (.call 2 [false] [(.var 1)])),
  (.asg (.name 2 true) (.mk .lst [])),
  (.asg (.name 3 false) (.lit (.int 0))),
  (.asg (.name 4 false) (.op .neg [(.lit (.int 1))])),
  FR4_1,
  (.ret (.op .tuple [(.var 2)]))]
def D4 : Def := ⟨[false, false], 9, false, n4⟩
theorem P4 {k : Nat} : phi tab (k+1) 4 = runD (phi tab k) D4 := rfl
/- 5 shifts: slots 0:stops 1:fields 2:rows 3:row 4:field -/
def EL5_0 : E := (.op (.bin .Sub) [(.op .ix [(.var 3), (.lit (.int 1))]), (.call 3 [false, false] [(.op .ix [(.var 0), (.op .ix [(.var 3), (.lit (.int 0))])]), (.var 4)])])
def IF5_0 : List E := [(.op (.cmp .IsNot) [(.var 3), (.lit .non)])]
def LC5_0 : E := .lc [3, 4] (.tup [(.name 3 false), (.name 4 false)]) .zip [(.var 2), (.var 1)] IF5_0 EL5_0
@[simp] theorem bwLC5_0 {r : R Sts (D × Sts)} {ρ : Sts} : bw LC5_0 ρ r = r.map fun p => (.dat p.1, p.2) := Eq.trans rfl rfl
def n5 : List S := [(.asg (.name 2 false) (.call 4 [false, false] [(.var 0), (.var 1)])),
  (.ret (.op .tuple [LC5_0]))]
def D5 : Def := ⟨[false, false], 5, false, n5⟩
theorem P5 {k : Nat} : phi tab (k+1) 5 = runD (phi tab k) D5 := rfl
/- 6 is_clean: slots 0:stops 1:fields 2:rows 3:shift -/
def EL6_0 : E := (.var 3)
def IF6_0 : List E := [(.op (.cmp .Gt) [(.var 3), (.lit (.int 0))])]
def LC6_0 : E := .lc [3] (.name 3 false) .it [(.call 5 [false, false] [(.var 0), (.var 1)])] IF6_0 EL6_0
@[simp] theorem bwLC6_0 {r : R Sts (D × Sts)} {ρ : Sts} : bw LC6_0 ρ r = r.map fun p => (.dat p.1, p.2) := Eq.trans rfl rfl
def n6 : List S := [(.asg (.name 2 false) (.call 4 [false, false] [(.var 0), (.var 1)])),
  (.ret (.and (.op (.cmp .NotIn) [(.lit .non), (.var 2)]) (.ife LC6_0 (.lit (.bl false)) (.lit (.bl true)))))]
def D6 : Def := ⟨[false, false], 4, false, n6⟩
theorem P6 {k : Nat} : phi tab (k+1) 6 = runD (phi tab k) D6 := rfl
/- 7 accept_fields: slots 0:stops 1:fields 2:rows 3:row 4:end 5:used 6:field 7:part -/
def EL7_0 : E := (.call 0 [false] [(.var 7)])
def LC7_0 : E := .lc [7] (.name 7 false) .it [(.var 3)] [] EL7_0
@[simp] theorem bwLC7_0 {r : R Sts (D × Sts)} {ρ : Sts} : bw LC7_0 ρ r = r.map fun p => (.dat p.1, p.2) := Eq.trans rfl rfl
def BD7_1 : List S := [(.ite (.or (.ife (.op (.isi "tuple") [(.var 3)]) (.lit (.bl false)) (.lit (.bl true))) (.or (.op (.cmp .NotEq) [(.op .len [(.var 3)]), (.lit (.int 2))]) (.ife (.op .all [LC7_0]) (.lit (.bl false)) (.lit (.bl true))))) [(.raise "PaperError" (.lit (.str "form")))] []), (.ite (.ife (.chain (.lit (.int 0)) .LtE (.op .ix [(.var 3), (.lit (.int 0))]) .Lt (.op .len [(.var 0)])) (.lit (.bl false)) (.lit (.bl true))) [(.raise "PaperError" (.lit (.str "form")))] [])]
def FR7_1 : S := .for (.name 3 false) .it [(.var 2)] BD7_1
def BD7_2 : List S := [(.ite (.op (.cmp .LtE) [(.op .ix [(.var 3), (.lit (.int 0))]), (.var 5)]) [(.raise "PaperError" (.lit (.str "stop")))] []), (.ite (.or (.op (.cmp .Lt) [(.op .ix [(.var 3), (.lit (.int 1))]), (.var 4)]) (.op (.cmp .Lt) [(.op .ix [(.var 3), (.lit (.int 1))]), (.call 3 [false, false] [(.op .ix [(.var 0), (.op .ix [(.var 3), (.lit (.int 0))])]), (.var 6)])])) [(.raise "PaperError" (.lit (.str "place")))] []), (.par [(5, false), (4, false)] [(.op .ix [(.var 3), (.lit (.int 0))]), (.op (.bin .Add) [(.op .ix [(.var 3), (.lit (.int 1))]), (.op .ix [(.var 6), (.lit (.int 0))])])])]
def FR7_2 : S := .for (.tup [(.name 3 false), (.name 6 false)]) .zip [(.var 2), (.var 1)] BD7_2
def n7 : List S := [(.exp (.call 1 [false] [(.var 0)])),
  (.exp (.call 2 [false] [(.var 1)])),
  (.ite (.or (.ife (.op (.isi "tuple") [(.var 2)]) (.lit (.bl false)) (.lit (.bl true))) (.op (.cmp .NotEq) [(.op .len [(.var 2)]), (.op .len [(.var 1)])])) [(.raise "PaperError" (.lit (.str "form")))] []),
  FR7_1,
  (.asg (.name 4 false) (.lit (.int 0))),
  (.asg (.name 5 false) (.op .neg [(.lit (.int 1))])),
  FR7_2]
def D7 : Def := ⟨[false, false, false], 8, false, n7⟩
theorem P7 {k : Nat} : phi tab (k+1) 7 = runD (phi tab k) D7 := rfl
/- 8 least_stops: slots 0:rows 1:gap 2:many 3:row 4:found* 5:column 6:width -/
def EL8_0 : E := (.op (.isi "tuple") [(.var 3)])
def LC8_0 : E := .lc [3] (.name 3 false) .it [(.var 0)] [] EL8_0
@[simp] theorem bwLC8_0 {r : R Sts (D × Sts)} {ρ : Sts} : bw LC8_0 ρ r = r.map fun p => (.dat p.1, p.2) := Eq.trans rfl rfl
def EL8_1 : E := (.op (.cmp .Eq) [(.op .len [(.var 3)]), (.var 2)])
def LC8_1 : E := .lc [3] (.name 3 false) .it [(.var 0)] [] EL8_1
@[simp] theorem bwLC8_1 {r : R Sts (D × Sts)} {ρ : Sts} : bw LC8_1 ρ r = r.map fun p => (.dat p.1, p.2) := Eq.trans rfl rfl
def EL8_2 : E := (.and (.call 0 [false] [(.var 6)]) (.chain (.lit (.int 0)) .LtE (.var 6) .LtE (.op (.bin .FloorDiv) [(.lit (.int 100000)), (.lit (.int 20))])))
def LC8_2 : E := .lc [6] (.name 6 false) .it [(.var 3)] [] EL8_2
@[simp] theorem bwLC8_2 {r : R Sts (D × Sts)} {ρ : Sts} : bw LC8_2 ρ r = r.map fun p => (.dat p.1, p.2) := Eq.trans rfl rfl
def BD8_3 : List S := [(.ite (.ife (.op .all [LC8_2]) (.lit (.bl false)) (.lit (.bl true))) [(.raise "ArgumentError" (.lit (.str "rows")))] [])]
def FR8_3 : S := .for (.name 3 false) .it [(.var 0)] BD8_3
def EL8_4 : E := (.op .ix [(.var 3), (.var 5)])
def LC8_4 : E := .lc [3] (.name 3 false) .it [(.var 0)] [] EL8_4
@[simp] theorem bwLC8_4 {r : R Sts (D × Sts)} {ρ : Sts} : bw LC8_4 ρ r = r.map fun p => (.dat p.1, p.2) := Eq.trans rfl rfl
def BD8_5 : List S := [(.exp (.mu .append 4 [(.op (.bin .Add) [(.op (.bin .Add) [(.op .ix [(.var 4), (.op .neg [(.lit (.int 1))])]), (.op .max [LC8_4])]), (.var 1)])]))]
def FR8_5 : S := .for (.name 5 false) .rng [(.op (.bin .Sub) [(.var 2), (.lit (.int 1))])] BD8_5
def n8 : List S := [(.ite (.or (.ife (.op (.isi "tuple") [(.var 0)]) (.lit (.bl false)) (.lit (.bl true))) (.ife (.chain (.lit (.int 1)) .LtE (.op .len [(.var 0)]) .LtE (.lit (.int 20))) (.lit (.bl false)) (.lit (.bl true)))) [(.raise "ArgumentError" (.lit (.str "rows")))] []),
  (.ite (.ife (.op .all [LC8_0]) (.lit (.bl false)) (.lit (.bl true))) [(.raise "ArgumentError" (.lit (.str "rows")))] []),
  (.asg (.name 2 false) (.op .len [(.op .ix [(.var 0), (.lit (.int 0))])])),
  (.ite (.or (.ife (.chain (.lit (.int 1)) .LtE (.var 2) .LtE (.lit (.int 20))) (.lit (.bl false)) (.lit (.bl true))) (.ife (.op .all [LC8_1]) (.lit (.bl false)) (.lit (.bl true)))) [(.raise "ArgumentError" (.lit (.str "rows")))] []),
  FR8_3,
  (.ite (.or (.ife (.call 0 [false] [(.var 1)]) (.lit (.bl false)) (.lit (.bl true))) (.ife (.chain (.lit (.int 1)) .LtE (.var 1) .LtE (.lit (.int 100000))) (.lit (.bl false)) (.lit (.bl true)))) [(.raise "ArgumentError" (.lit (.str "gap")))] []),
  (.asg (.name 4 true) (.mk .lst [(.lit (.int 0))])),
  FR8_5,
  (.ret (.op .tuple [(.var 4)]))]
def D8 : Def := ⟨[false, false], 7, false, n8⟩
theorem P8 {k : Nat} : phi tab (k+1) 8 = runD (phi tab k) D8 := rfl
/- 9 sign_stop: slots 0:fields 1:place 2:width 3:ahead -/
def EL9_0 : E := (.var 3)
def LC9_0 : E := .lc [2, 3] (.tup [(.name 2 false), (.name 3 false)]) .it [(.var 0)] [] EL9_0
@[simp] theorem bwLC9_0 {r : R Sts (D × Sts)} {ρ : Sts} : bw LC9_0 ρ r = r.map fun p => (.dat p.1, p.2) := Eq.trans rfl rfl
def EL9_1 : E := (.op (.bin .Sub) [(.var 2), (.var 3)])
def LC9_1 : E := .lc [2, 3] (.tup [(.name 2 false), (.name 3 false)]) .it [(.var 0)] [] EL9_1
@[simp] theorem bwLC9_1 {r : R Sts (D × Sts)} {ρ : Sts} : bw LC9_1 ρ r = r.map fun p => (.dat p.1, p.2) := Eq.trans rfl rfl
def n9 : List S := [(.exp (.call 2 [false] [(.var 0)])),
  (.ite (.ife (.op .tru [(.var 0)]) (.lit (.bl false)) (.lit (.bl true))) [(.ret (.mk .tup [(.lit (.int 0)), (.lit (.int 0))]))] []),
  (.asg (.name 1 false) (.op .max [LC9_0])),
  (.ret (.mk .tup [(.var 1), (.op (.bin .Add) [(.var 1), (.op .max [LC9_1])])]))]
def D9 : Def := ⟨[false], 4, false, n9⟩
theorem P9 {k : Nat} : phi tab (k+1) 9 = runD (phi tab k) D9 := rfl
/- 10 leaders: slots 0:begin 1:end 2:own 3:first 4:reason 5:part 6:number -/
def BD10_0 : List S := [(.ite (.or (.ife (.call 0 [false] [(.var 5)]) (.lit (.bl false)) (.lit (.bl true))) (.ife (.chain (.lit (.int 0)) .LtE (.var 5) .LtE (.lit (.int 100000))) (.lit (.bl false)) (.lit (.bl true)))) [(.raise "ArgumentError" (.var 4))] [])]
def FR10_0 : S := .for (.tup [(.name 4 false), (.name 5 false)]) .it [(.mk .tup [(.mk .tup [(.lit (.str "begin")), (.var 0)]), (.mk .tup [(.lit (.str "end")), (.var 1)])])] BD10_0
def EL10_1 : E := (.op (.bin .Mult) [(.var 6), (.var 2)])
def LC10_1 : E := .lc [6] (.name 6 false) .rng [(.var 3), (.op .max [(.var 3), (.op (.bin .FloorDiv) [(.var 1), (.var 2)])])] [] EL10_1
@[simp] theorem bwLC10_1 {r : R Sts (D × Sts)} {ρ : Sts} : bw LC10_1 ρ r = r.map fun p => (.dat p.1, p.2) := Eq.trans rfl rfl
def n10 : List S := [FR10_0,
  (.ite (.or (.ife (.call 0 [false] [(.var 2)]) (.lit (.bl false)) (.lit (.bl true))) (.ife (.chain (.lit (.int 1)) .LtE (.var 2) .LtE (.lit (.int 100000))) (.lit (.bl false)) (.lit (.bl true)))) [(.raise "ArgumentError" (.lit (.str "own")))] []),
  (.asg (.name 3 false) (.op .neg [(.op (.bin .FloorDiv) [(.op .neg [(.var 0)]), (.var 2)])])),
  (.ret (.op .tuple [LC10_1]))]
def D10 : Def := ⟨[false, false, false], 7, false, n10⟩
theorem P10 {k : Nat} : phi tab (k+1) 10 = runD (phi tab k) D10 := rfl
/- 11 _law_start: slots 0:script 1:seed 2:cell -/
def BD11_0 : List S := [(.asg (.name 1 false) (.op (.bin .Add) [(.op (.bin .Mod) [(.op .int [(.op (.bin .Add) [(.op (.bin .Mult) [(.var 1), (.lit (.int 48271))]), (.var 2)])]), (.lit (.int 2147483629))]), (.lit (.int 1))]))]
def FR11_0 : S := .for (.name 2 false) .it [(.var 0)] BD11_0
def n11 : List S := [(.asg (.name 1 false) (.lit (.int 7))),
  FR11_0,
  (.ret (.mk .lst [(.op .list [(.var 0)]), (.lit (.int 0)), (.lit (.int 0)), (.var 1)]))]
def D11 : Def := ⟨[false], 3, true, n11⟩
theorem P11 {k : Nat} : phi tab (k+1) 11 = runD (phi tab k) D11 := rfl
/- 12 _law_draw: slots 0:state* 1:many 2:value -/
def n12 : List S := [(.ite (.and (.op (.cmp .Eq) [(.op .ix [(.var 0), (.lit (.int 1))]), (.lit (.int 0))]) (.op (.cmp .GtE) [(.op .ix [(.var 0), (.lit (.int 2))]), (.op .len [(.op .ix [(.var 0), (.lit (.int 0))])])])) [(.seti 0 (.lit (.int 3)) (.op (.bin .Mod) [(.op .int [(.op (.bin .Add) [(.op (.bin .Mult) [(.op .ix [(.var 0), (.lit (.int 3))]), (.lit (.int 48271))]), (.lit (.int 69621))])]), (.lit (.int 2147483629))])), (.ret (.op (.bin .Mod) [(.op .int [(.op (.bin .FloorDiv) [(.op .ix [(.var 0), (.lit (.int 3))]), (.lit (.int 13))])]), (.var 1)]))] []),
  (.ite (.op (.cmp .Eq) [(.op .ix [(.var 0), (.lit (.int 1))]), (.lit (.int 0))]) [(.seti 0 (.lit (.int 1)) (.op .abs [(.op .ix [(.op .ix [(.var 0), (.lit (.int 0))]), (.op .ix [(.var 0), (.lit (.int 2))])])])), (.seti 0 (.lit (.int 2)) (.op (.bin .Add) [(.op .ix [(.var 0), (.lit (.int 2))]), (.lit (.int 1))]))] []),
  (.asg (.name 2 false) (.op (.bin .Mod) [(.op .int [(.op .ix [(.var 0), (.lit (.int 1))])]), (.var 1)])),
  (.seti 0 (.lit (.int 1)) (.op (.bin .FloorDiv) [(.op .ix [(.var 0), (.lit (.int 1))]), (.var 1)])),
  (.reto 2)]
def D12 : Def := ⟨[true, false], 3, false, n12⟩
theorem P12 {k : Nat} : phi tab (k+1) 12 = runD (phi tab k) D12 := rfl
/- 13 _law_pick: slots 0:state* 1:some -/
def n13 : List S := [(.ret (.op .ix [(.var 1), (.call 12 [true, false] [(.var 0), (.op .len [(.var 1)])])]))]
def D13 : Def := ⟨[true, false], 2, false, n13⟩
theorem P13 {k : Nat} : phi tab (k+1) 13 = runD (phi tab k) D13 := rfl
/- 14 _law_same: slots 0:actual 1:due -/
def n14 : List S := [(.ret (.and (.op (.cmp .Eq) [(.var 0), (.var 1)]) (.op (.cmp .Eq) [(.op .repr [(.var 0)]), (.op .repr [(.var 1)])])))]
def D14 : Def := ⟨[false, false], 2, false, n14⟩
theorem P14 {k : Nat} : phi tab (k+1) 14 = runD (phi tab k) D14 := rfl
/- 15 _law_asked: slots 0:way 1:some 2:error -/
def n15 : List S := [(.tryw [(.ite (.op (.cmp .Lt) [(.op .len [(.var 1)]), (.lit (.int 3))]) [(.ret (.ife (.op (.cmp .Eq) [(.op .len [(.var 1)]), (.lit (.int 1))]) (.mk .lst [(.callv 0 (fnTab fns) [(.op .ix [(.var 1), (.lit (.int 0))])])]) (.mk .lst [(.callv 0 (fnTab fns) [(.op .ix [(.var 1), (.lit (.int 0))]), (.op .ix [(.var 1), (.lit (.int 1))])])])))] []), (.ite (.op (.cmp .Lt) [(.op .len [(.var 1)]), (.lit (.int 5))]) [(.ret (.ife (.op (.cmp .Eq) [(.op .len [(.var 1)]), (.lit (.int 3))]) (.mk .lst [(.callv 0 (fnTab fns) [(.op .ix [(.var 1), (.lit (.int 0))]), (.op .ix [(.var 1), (.lit (.int 1))]), (.op .ix [(.var 1), (.lit (.int 2))])])]) (.mk .lst [(.callv 0 (fnTab fns) [(.op .ix [(.var 1), (.lit (.int 0))]), (.op .ix [(.var 1), (.lit (.int 1))]), (.op .ix [(.var 1), (.lit (.int 2))]), (.op .ix [(.var 1), (.lit (.int 3))])])])))] []), (.ret (.ife (.op (.cmp .Eq) [(.op .len [(.var 1)]), (.lit (.int 5))]) (.mk .lst [(.callv 0 (fnTab fns) [(.op .ix [(.var 1), (.lit (.int 0))]), (.op .ix [(.var 1), (.lit (.int 1))]), (.op .ix [(.var 1), (.lit (.int 2))]), (.op .ix [(.var 1), (.lit (.int 3))]), (.op .ix [(.var 1), (.lit (.int 4))])])]) (.mk .lst [(.callv 0 (fnTab fns) [(.op .ix [(.var 1), (.lit (.int 0))]), (.op .ix [(.var 1), (.lit (.int 1))]), (.op .ix [(.var 1), (.lit (.int 2))]), (.op .ix [(.var 1), (.lit (.int 3))]), (.op .ix [(.var 1), (.lit (.int 4))]), (.op .ix [(.var 1), (.lit (.int 5))])])])))] whs 2)]
def D15 : Def := ⟨[false, false], 3, false, n15⟩
theorem P15 {k : Nat} : phi tab (k+1) 15 = runD (phi tab k) D15 := rfl
/- 16 _law_word: slots 0:error 1:heads 2:found -/
def n16 : List S := [(.raise "" (.lit .non)),
  (.raise "" (.lit .non)),
  (.raise "" (.lit .non)),
  (.raise "" (.lit .non))]
def D16 : Def := ⟨[false], 3, false, n16⟩
theorem P16 {k : Nat} : phi tab (k+1) 16 = runD (phi tab k) D16 := rfl
/- 17 _law_whole: slots 0:value 1:least 2:most -/
def n17 : List S := [(.ret (.and (.op (.isi "int") [(.var 0)]) (.and (.ife (.op (.isi "bool") [(.var 0)]) (.lit (.bl false)) (.lit (.bl true))) (.chain (.var 1) .LtE (.var 0) .LtE (.var 2)))))]
def D17 : Def := ⟨[false, false, false], 3, false, n17⟩
theorem P17 {k : Nat} : phi tab (k+1) 17 = runD (phi tab k) D17 := rfl
/- 18 _law_bent: slots 0:state* 1:value 2:depth 3:at 4:pick -/
def n18 : List S := [(.ite (.and (.op (.isi "int") [(.var 1)]) (.and (.ife (.op (.isi "bool") [(.var 1)]) (.lit (.bl false)) (.lit (.bl true))) (.op (.cmp .Gt) [(.call 12 [true, false] [(.var 0), (.lit (.int 4))]), (.lit (.int 0))]))) [(.ret (.op (.bin .Add) [(.var 1), (.call 13 [true, false] [(.var 0), (.mk .lst [(.lit (.int 1)), (.op .neg [(.lit (.int 1))]), (.lit (.int 2)), (.lit (.int 40))])])]))] []),
  (.ite (.or (.ife (.op (.isi "tuple") [(.var 1)]) (.lit (.bl false)) (.lit (.bl true))) (.or (.ife (.op .tru [(.var 1)]) (.lit (.bl false)) (.lit (.bl true))) (.or (.op (.cmp .Eq) [(.var 2), (.lit (.int 0))]) (.op (.cmp .Eq) [(.call 12 [true, false] [(.var 0), (.lit (.int 9))]), (.lit (.int 0))])))) [(.ret (.call 13 [true, false] [(.var 0), (.mk .lst [(.lit .non), (.lit (.bl true)), (.lit (.bl false)), (.op .neg [(.lit (.int 1))]), (.lit (.int 0)), (.lit (.int 1)), (.lit (.str "")), (.lit (.str "new")), (.mk .tup []), (.mk .tup [(.lit (.int 0))]), (.mk .tup [(.lit (.int 0)), (.lit (.int 1))]), (.mk .tup [(.lit (.int 1)), (.lit (.int 1))]), (.mk .tup [(.lit (.int 1)), (.lit (.int 0))]), (.mk .tup [(.mk .tup [(.lit (.int 1)), (.lit (.int 1))])]), (.mk .tup [(.mk .tup [(.lit (.int 0)), (.lit (.int 1))])]), (.mk .tup [(.lit .non)]), (.mk .tup [(.lit (.bl true))])])]))] []),
  (.asg (.name 3 false) (.call 12 [true, false] [(.var 0), (.op .len [(.var 1)])])),
  (.asg (.name 4 false) (.call 12 [true, false] [(.var 0), (.lit (.int 8))])),
  (.ite (.op (.cmp .Eq) [(.var 4), (.lit (.int 0))]) [(.ret (.op (.bin .Add) [(.op (.sl false true) [(.var 1), (.op .ck [(.var 3)])]), (.op (.sl true false) [(.var 1), (.op .ck [(.op (.bin .Add) [(.var 3), (.lit (.int 1))])])])]))] []),
  (.ite (.op (.cmp .Eq) [(.var 4), (.lit (.int 1))]) [(.ret (.op (.bin .Add) [(.op (.bin .Add) [(.op (.sl false true) [(.var 1), (.op .ck [(.var 3)])]), (.op (.sl true true) [(.var 1), (.op .ck [(.var 3)]), (.op .ck [(.op (.bin .Add) [(.var 3), (.lit (.int 1))])])])]), (.op (.sl true false) [(.var 1), (.op .ck [(.var 3)])])]))] []),
  (.ite (.op (.cmp .Eq) [(.var 4), (.lit (.int 2))]) [(.ret (.op .rev [(.var 1)]))] []),
  (.ret (.op (.bin .Add) [(.op (.bin .Add) [(.op (.sl false true) [(.var 1), (.op .ck [(.var 3)])]), (.mk .tup [(.call 18 [true, false, false] [(.var 0), (.op .ix [(.var 1), (.var 3)]), (.op (.bin .Sub) [(.var 2), (.lit (.int 1))])])])]), (.op (.sl true false) [(.var 1), (.op .ck [(.op (.bin .Add) [(.var 3), (.lit (.int 1))])])])]))]
def D18 : Def := ⟨[true, false, false], 5, false, n18⟩
theorem P18 {k : Nat} : phi tab (k+1) 18 = runD (phi tab k) D18 := rfl
/- 19 _law_stops: slots 0:state* 1:many 2:top 3:rows 4:place 5:k -/
def EL19_0 : E := (.mk .tup [(.call 12 [true, false] [(.var 0), (.var 2)]), (.lit (.bl true))])
def LC19_0 : E := .lc [5] (.name 5 false) .rng [(.var 1)] [] EL19_0
@[simp] theorem bwLC19_0 {r : R Sts (D × Sts)} {ρ : Sts} : bw LC19_0 ρ r = r.map fun p => (.dat p.1, p.2) := Eq.trans rfl rfl
def EL19_1 : E := (.mk .tup [(.var 4), (.call 13 [true, false] [(.var 0), (.mk .lst [(.lit (.str "left")), (.lit (.str "right")), (.lit (.str "middle")), (.lit (.str "sign"))])])])
def LC19_1 : E := .lc [4] (.name 4 false) .it [(.var 3)] [] EL19_1
@[simp] theorem bwLC19_1 {r : R Sts (D × Sts)} {ρ : Sts} : bw LC19_1 ρ r = r.map fun p => (.dat p.1, p.2) := Eq.trans rfl rfl
def n19 : List S := [(.asg (.name 3 false) (.op .sort [(.op .dict [LC19_0])])),
  (.ret (.op .tuple [LC19_1]))]
def D19 : Def := ⟨[true, false, false], 6, false, n19⟩
theorem P19 {k : Nat} : phi tab (k+1) 19 = runD (phi tab k) D19 := rfl
/- 20 _law_fields: slots 0:state* 1:many 2:top 3:rows 4:k 5:width -/
def EL20_0 : E := (.call 12 [true, false] [(.var 0), (.var 2)])
def LC20_0 : E := .lc [4] (.name 4 false) .rng [(.call 12 [true, false] [(.var 0), (.op (.bin .Add) [(.var 1), (.lit (.int 1))])])] [] EL20_0
@[simp] theorem bwLC20_0 {r : R Sts (D × Sts)} {ρ : Sts} : bw LC20_0 ρ r = r.map fun p => (.dat p.1, p.2) := Eq.trans rfl rfl
def EL20_1 : E := (.mk .tup [(.var 5), (.call 12 [true, false] [(.var 0), (.op (.bin .Add) [(.var 5), (.lit (.int 1))])])])
def LC20_1 : E := .lc [5] (.name 5 false) .it [(.var 3)] [] EL20_1
@[simp] theorem bwLC20_1 {r : R Sts (D × Sts)} {ρ : Sts} : bw LC20_1 ρ r = r.map fun p => (.dat p.1, p.2) := Eq.trans rfl rfl
def n20 : List S := [(.asg (.name 3 false) LC20_0),
  (.ret (.op .tuple [LC20_1]))]
def D20 : Def := ⟨[true, false, false], 6, false, n20⟩
theorem P20 {k : Nat} : phi tab (k+1) 20 = runD (phi tab k) D20 := rfl
/- 21 _law_wanted: slots 0:stop 1:field -/
def n21 : List S := [(.ret (.op (.bin .Sub) [(.op .ix [(.var 0), (.lit (.int 0))]), (.op .ix [(.op .dict [(.mk .lst [(.mk .tup [(.lit (.str "left")), (.lit (.int 0))]), (.mk .tup [(.lit (.str "right")), (.op .ix [(.var 1), (.lit (.int 0))])]), (.mk .tup [(.lit (.str "middle")), (.op (.bin .FloorDiv) [(.op .ix [(.var 1), (.lit (.int 0))]), (.lit (.int 2))])]), (.mk .tup [(.lit (.str "sign")), (.op .ix [(.var 1), (.lit (.int 1))])])])]), (.op .ix [(.var 0), (.lit (.int 1))])])]))]
def D21 : Def := ⟨[false, false], 2, false, n21⟩
theorem P21 {k : Nat} : phi tab (k+1) 21 = runD (phi tab k) D21 := rfl
/- 22 _law_set: slots 0:stops 1:fields 2:field 3:found* 4:end 5:first 6:place -/
def TS22_0 : E := (.and (.op (.cmp .Lt) [(.var 5), (.op .len [(.var 0)])]) (.op (.cmp .Lt) [(.op .ix [(.op .ix [(.var 0), (.var 5)]), (.lit (.int 0))]), (.var 4)]))
def BD22_0 : List S := [(.asg (.name 5 false) (.op (.bin .Add) [(.var 5), (.lit (.int 1))]))]
def WH22_0 : S := .whl TS22_0 BD22_0
def BD22_1 : List S := [WH22_0, (.ite (.op (.cmp .Eq) [(.var 5), (.op .len [(.var 0)])]) [(.ret (.op .tuple [(.op (.bin .Add) [(.var 3), (.mk .lst [(.lit .non)])])]))] []), (.asg (.name 6 false) (.op .max [(.mk .lst [(.var 4), (.call 21 [false, false] [(.op .ix [(.var 0), (.var 5)]), (.var 2)])])])), (.exp (.mu .append 3 [(.mk .tup [(.var 5), (.var 6)])])), (.par [(4, false), (5, false)] [(.op (.bin .Add) [(.var 6), (.op .ix [(.var 2), (.lit (.int 0))])]), (.op (.bin .Add) [(.var 5), (.lit (.int 1))])])]
def FR22_1 : S := .for (.name 2 false) .it [(.var 1)] BD22_1
def n22 : List S := [(.par [(3, true), (4, false), (5, false)] [(.mk .lst []), (.lit (.int 0)), (.lit (.int 0))]),
  FR22_1,
  (.ret (.op .tuple [(.var 3)]))]
def D22 : Def := ⟨[false, false], 7, false, n22⟩
theorem P22 {k : Nat} : phi tab (k+1) 22 = runD (phi tab k) D22 := rfl
/- 23 _law_fields_due: slots 0:stops 1:fields 2:rows 3:row 4:k 5:used 6:end -/
def BD23_0 : List S := [(.ite (.or (.ife (.op (.isi "tuple") [(.var 3)]) (.lit (.bl false)) (.lit (.bl true))) (.or (.op (.cmp .NotEq) [(.op .len [(.var 3)]), (.lit (.int 2))]) (.or (.ife (.call 17 [false, false, false] [(.op .ix [(.var 3), (.lit (.int 0))]), (.lit (.int 0)), (.op (.bin .Sub) [(.op .len [(.var 0)]), (.lit (.int 1))])]) (.lit (.bl false)) (.lit (.bl true))) (.ife (.call 17 [false, false, false] [(.op .ix [(.var 3), (.lit (.int 1))]), (.op .neg [(.op (.bin .Pow) [(.lit (.int 10)), (.lit (.int 40))])]), (.op (.bin .Pow) [(.lit (.int 10)), (.lit (.int 40))])]) (.lit (.bl false)) (.lit (.bl true)))))) [(.ret (.lit (.str "paper form")))] [])]
def FR23_0 : S := .for (.name 3 false) .it [(.var 2)] BD23_0
def BD23_1 : List S := [(.ite (.op (.cmp .LtE) [(.op .ix [(.op .ix [(.var 2), (.var 4)]), (.lit (.int 0))]), (.var 5)]) [(.ret (.lit (.str "paper stop")))] []), (.ite (.op (.cmp .Lt) [(.op .ix [(.op .ix [(.var 2), (.var 4)]), (.lit (.int 1))]), (.op .max [(.mk .lst [(.var 6), (.call 21 [false, false] [(.op .ix [(.var 0), (.op .ix [(.op .ix [(.var 2), (.var 4)]), (.lit (.int 0))])]), (.op .ix [(.var 1), (.var 4)])])])])]) [(.ret (.lit (.str "paper place")))] []), (.par [(5, false), (6, false)] [(.op .ix [(.op .ix [(.var 2), (.var 4)]), (.lit (.int 0))]), (.op (.bin .Add) [(.op .ix [(.op .ix [(.var 2), (.var 4)]), (.lit (.int 1))]), (.op .ix [(.op .ix [(.var 1), (.var 4)]), (.lit (.int 0))])])])]
def FR23_1 : S := .for (.name 4 false) .rng [(.op .len [(.var 2)])] BD23_1
def n23 : List S := [(.ite (.or (.ife (.op (.isi "tuple") [(.var 2)]) (.lit (.bl false)) (.lit (.bl true))) (.op (.cmp .NotEq) [(.op .len [(.var 2)]), (.op .len [(.var 1)])])) [(.ret (.lit (.str "paper form")))] []),
  FR23_0,
  (.par [(5, false), (6, false)] [(.op .neg [(.lit (.int 1))]), (.lit (.int 0))]),
  FR23_1,
  (.ret (.mk .lst [(.lit .non)]))]
def D23 : Def := ⟨[false, false, false], 7, false, n23⟩
theorem P23 {k : Nat} : phi tab (k+1) 23 = runD (phi tab k) D23 := rfl
/- 24 _law_papers_hold: slots 0:state* 1:top 2:rows 3:k 4:stops 5:fields 6:some 7:row -/
def EL24_0 : E := (.ife (.op (.cmp .IsNot) [(.var 7), (.lit .non)]) (.var 7) (.mk .tup [(.op (.bin .Sub) [(.op .len [(.var 4)]), (.lit (.int 1))]), (.lit (.int 99))]))
def LC24_0 : E := .lc [7] (.name 7 false) .it [(.call 22 [false, false] [(.var 4), (.var 5)])] [] EL24_0
@[simp] theorem bwLC24_0 {r : R Sts (D × Sts)} {ρ : Sts} : bw LC24_0 ρ r = r.map fun p => (.dat p.1, p.2) := Eq.trans rfl rfl
def EL24_1 : E := (.mk .tup [(.op (.bin .Add) [(.op .ix [(.var 7), (.lit (.int 0))]), (.call 12 [true, false] [(.var 0), (.lit (.int 2))])]), (.op (.bin .Add) [(.op .ix [(.var 7), (.lit (.int 1))]), (.call 12 [true, false] [(.var 0), (.lit (.int 3))])])])
def LC24_1 : E := .lc [7] (.name 7 false) .it [(.var 2)] [] EL24_1
@[simp] theorem bwLC24_1 {r : R Sts (D × Sts)} {ρ : Sts} : bw LC24_1 ρ r = r.map fun p => (.dat p.1, p.2) := Eq.trans rfl rfl
def BD24_2 : List S := [(.asg (.name 6 false) (.var 2)), (.ite (.op (.cmp .Gt) [(.var 3), (.lit (.int 0))]) [(.asg (.name 6 false) (.ife (.op (.cmp .Lt) [(.var 3), (.lit (.int 5))]) (.call 18 [true, false, false] [(.var 0), (.var 2), (.lit (.int 2))]) (.op .tuple [LC24_1])))] []), (.ite (.ife (.call 14 [false, false] [(.call 15 [false, false] [(.lit (.fn "accept_fields")), (.mk .lst [(.var 4), (.var 5), (.var 6)])]), (.call 23 [false, false, false] [(.var 4), (.var 5), (.var 6)])]) (.lit (.bl false)) (.lit (.bl true))) [(.ret (.lit (.bl false)))] [])]
def FR24_2 : S := .for (.name 3 false) .rng [(.lit (.int 8))] BD24_2
def n24 : List S := [(.asg (.name 1 false) (.call 13 [true, false] [(.var 0), (.mk .lst [(.lit (.int 9)), (.lit (.int 60))])])),
  (.par [(4, false), (5, false)] [(.call 19 [true, false, false] [(.var 0), (.lit (.int 12)), (.var 1)]), (.call 20 [true, false, false] [(.var 0), (.lit (.int 5)), (.call 13 [true, false] [(.var 0), (.mk .lst [(.lit (.int 3)), (.lit (.int 12))])])])]),
  (.asg (.name 2 false) (.op .tuple [LC24_0])),
  (.asg (.name 2 false) (.op (.bin .Add) [(.var 2), (.op (.bin .Mult) [(.mk .tup [(.mk .tup [(.op (.bin .Sub) [(.op .len [(.var 4)]), (.lit (.int 1))]), (.lit (.int 500))])]), (.op (.bin .Sub) [(.op .len [(.var 5)]), (.op .len [(.var 2)])])])])),
  FR24_2,
  (.ret (.lit (.bl true)))]
def D24 : Def := ⟨[true], 8, false, n24⟩
theorem P24 {k : Nat} : phi tab (k+1) 24 = runD (phi tab k) D24 := rfl
/- 25 _law_are_stops: slots 0:stops 1:last 2:stop -/
def BD25_0 : List S := [(.ite (.or (.ife (.op (.isi "tuple") [(.var 2)]) (.lit (.bl false)) (.lit (.bl true))) (.or (.op (.cmp .NotEq) [(.op .len [(.var 2)]), (.lit (.int 2))]) (.or (.ife (.call 17 [false, false, false] [(.op .ix [(.var 2), (.lit (.int 0))]), (.op (.bin .Add) [(.var 1), (.lit (.int 1))]), (.lit (.int 100000))]) (.lit (.bl false)) (.lit (.bl true))) (.ife (.op (.isi "str") [(.op .ix [(.var 2), (.lit (.int 1))])]) (.lit (.bl false)) (.lit (.bl true)))))) [(.ret (.lit (.bl false)))] []), (.ite (.op (.cmp .NotIn) [(.op .ix [(.var 2), (.lit (.int 1))]), (.mk .lst [(.lit (.str "left")), (.lit (.str "right")), (.lit (.str "middle")), (.lit (.str "sign"))])]) [(.ret (.lit (.bl false)))] []), (.asg (.name 1 false) (.op .ix [(.var 2), (.lit (.int 0))]))]
def FR25_0 : S := .for (.name 2 false) .it [(.var 0)] BD25_0
def n25 : List S := [(.ite (.or (.ife (.op (.isi "tuple") [(.var 0)]) (.lit (.bl false)) (.lit (.bl true))) (.ife (.chain (.lit (.int 1)) .LtE (.op .len [(.var 0)]) .LtE (.lit (.int 20))) (.lit (.bl false)) (.lit (.bl true)))) [(.ret (.lit (.bl false)))] []),
  (.asg (.name 1 false) (.op .neg [(.lit (.int 1))])),
  FR25_0,
  (.ret (.lit (.bl true)))]
def D25 : Def := ⟨[false], 3, false, n25⟩
theorem P25 {k : Nat} : phi tab (k+1) 25 = runD (phi tab k) D25 := rfl
/- 26 _law_are_fields: slots 0:fields 1:field -/
def BD26_0 : List S := [(.ite (.or (.ife (.op (.isi "tuple") [(.var 1)]) (.lit (.bl false)) (.lit (.bl true))) (.or (.op (.cmp .NotEq) [(.op .len [(.var 1)]), (.lit (.int 2))]) (.or (.ife (.call 17 [false, false, false] [(.op .ix [(.var 1), (.lit (.int 0))]), (.lit (.int 0)), (.lit (.int 100000))]) (.lit (.bl false)) (.lit (.bl true))) (.ife (.call 17 [false, false, false] [(.op .ix [(.var 1), (.lit (.int 1))]), (.lit (.int 0)), (.op .ix [(.var 1), (.lit (.int 0))])]) (.lit (.bl false)) (.lit (.bl true)))))) [(.ret (.lit (.bl false)))] [])]
def FR26_0 : S := .for (.name 1 false) .it [(.var 0)] BD26_0
def n26 : List S := [(.ite (.or (.ife (.op (.isi "tuple") [(.var 0)]) (.lit (.bl false)) (.lit (.bl true))) (.op (.cmp .Gt) [(.op .len [(.var 0)]), (.lit (.int 20))])) [(.ret (.lit (.bl false)))] []),
  FR26_0,
  (.ret (.lit (.bl true)))]
def D26 : Def := ⟨[false], 2, false, n26⟩
theorem P26 {k : Nat} : phi tab (k+1) 26 = runD (phi tab k) D26 := rfl
/- 27 _law_are_rows: slots 0:rows 1:row 2:width -/
def EL27_0 : E := (.var 1)
def IF27_0 : List E := [(.ife (.op (.isi "tuple") [(.var 1)]) (.lit (.bl false)) (.lit (.bl true)))]
def LC27_0 : E := .lc [1] (.name 1 false) .it [(.var 0)] IF27_0 EL27_0
@[simp] theorem bwLC27_0 {r : R Sts (D × Sts)} {ρ : Sts} : bw LC27_0 ρ r = r.map fun p => (.dat p.1, p.2) := Eq.trans rfl rfl
def EL27_1 : E := (.var 1)
def IF27_1 : List E := [(.op (.cmp .NotEq) [(.op .len [(.var 1)]), (.op .len [(.op .ix [(.var 0), (.lit (.int 0))])])])]
def LC27_1 : E := .lc [1] (.name 1 false) .it [(.var 0)] IF27_1 EL27_1
@[simp] theorem bwLC27_1 {r : R Sts (D × Sts)} {ρ : Sts} : bw LC27_1 ρ r = r.map fun p => (.dat p.1, p.2) := Eq.trans rfl rfl
def EL27_2 : E := (.var 2)
def IF27_2 : List E := [(.ife (.call 17 [false, false, false] [(.var 2), (.lit (.int 0)), (.lit (.int 5000))]) (.lit (.bl false)) (.lit (.bl true)))]
def LC27_2 : E := .lc [2] (.name 2 false) .it [(.var 1)] IF27_2 EL27_2
@[simp] theorem bwLC27_2 {r : R Sts (D × Sts)} {ρ : Sts} : bw LC27_2 ρ r = r.map fun p => (.dat p.1, p.2) := Eq.trans rfl rfl
def EL27_3 : E := (.var 1)
def IF27_3 : List E := [LC27_2]
def LC27_3 : E := .lc [1] (.name 1 false) .it [(.var 0)] IF27_3 EL27_3
@[simp] theorem bwLC27_3 {r : R Sts (D × Sts)} {ρ : Sts} : bw LC27_3 ρ r = r.map fun p => (.dat p.1, p.2) := Eq.trans rfl rfl
def n27 : List S := [(.ite (.or (.ife (.op (.isi "tuple") [(.var 0)]) (.lit (.bl false)) (.lit (.bl true))) (.or (.ife (.chain (.lit (.int 1)) .LtE (.op .len [(.var 0)]) .LtE (.lit (.int 20))) (.lit (.bl false)) (.lit (.bl true))) LC27_0)) [(.ret (.lit (.bl false)))] []),
  (.ite (.or (.ife (.chain (.lit (.int 1)) .LtE (.op .len [(.op .ix [(.var 0), (.lit (.int 0))])]) .LtE (.lit (.int 20))) (.lit (.bl false)) (.lit (.bl true))) LC27_1) [(.ret (.lit (.bl false)))] []),
  (.ret (.ife LC27_3 (.lit (.bl false)) (.lit (.bl true))))]
def D27 : Def := ⟨[false], 3, false, n27⟩
theorem P27 {k : Nat} : phi tab (k+1) 27 = runD (phi tab k) D27 := rfl
/- 28 _law_due: slots 0:way 1:some 2:bad 3:stops 4:fields 5:rows 6:gap 7:begin 8:end 9:own 10:words 11:word 12:right -/
def EL28_0 : E := (.var 11)
def IF28_0 : List E := [(.ife (.op .tru [(.var 12)]) (.lit (.bl false)) (.lit (.bl true)))]
def LC28_0 : E := .lc [11, 12] (.tup [(.name 11 false), (.name 12 false)]) .it [(.var 10)] IF28_0 EL28_0
@[simp] theorem bwLC28_0 {r : R Sts (D × Sts)} {ρ : Sts} : bw LC28_0 ρ r = r.map fun p => (.dat p.1, p.2) := Eq.trans rfl rfl
def n28 : List S := [(.asg (.tup [(.name 3 false), (.name 4 false), (.name 5 false), (.name 6 false), (.name 7 false), (.name 8 false), (.name 9 false)]) (.var 1)),
  (.ite (.op (.cmp .Lt) [(.var 0), (.lit (.int 4))]) [(.asg (.name 10 false) (.mk .lst [(.mk .tup [(.lit (.str "stops")), (.call 25 [false] [(.var 3)])]), (.mk .tup [(.lit (.str "fields")), (.call 26 [false] [(.var 4)])])]))] [(.ite (.op (.cmp .Eq) [(.var 0), (.lit (.int 4))]) [(.asg (.name 10 false) (.mk .lst [(.mk .tup [(.lit (.str "fields")), (.call 26 [false] [(.var 4)])])]))] [(.ite (.op (.cmp .Eq) [(.var 0), (.lit (.int 5))]) [(.asg (.name 10 false) (.mk .lst [(.mk .tup [(.lit (.str "rows")), (.call 27 [false] [(.var 5)])]), (.mk .tup [(.lit (.str "gap")), (.call 17 [false, false, false] [(.var 6), (.lit (.int 1)), (.lit (.int 100000))])])]))] [(.asg (.name 10 false) (.mk .lst [(.mk .tup [(.lit (.str "begin")), (.call 17 [false, false, false] [(.var 7), (.lit (.int 0)), (.lit (.int 100000))])]), (.mk .tup [(.lit (.str "end")), (.call 17 [false, false, false] [(.var 8), (.lit (.int 0)), (.lit (.int 100000))])]), (.mk .tup [(.lit (.str "own")), (.call 17 [false, false, false] [(.var 9), (.lit (.int 1)), (.lit (.int 100000))])])]))])])]),
  (.asg (.name 2 false) LC28_0),
  (.ret (.ife (.op .tru [(.var 2)]) (.op (.bin .Add) [(.lit (.str "argument ")), (.op .ix [(.var 2), (.lit (.int 0))])]) (.ife (.op (.cmp .Eq) [(.var 0), (.lit (.int 3))]) (.lit (.str "paper form")) (.lit (.str "")))))]
def D28 : Def := ⟨[false, false], 13, false, n28⟩
theorem P28 {k : Nat} : phi tab (k+1) 28 = runD (phi tab k) D28 := rfl
/- 29 _law_told: slots 0:way 1:some 2:given 3:told 4:stops 5:fields 6:rows 7:gap 8:begin 9:end 10:own -/
def n29 : List S := [(.asg (.tup [(.name 4 false), (.name 5 false), (.name 6 false), (.name 7 false), (.name 8 false), (.name 9 false), (.name 10 false)]) (.var 1)),
  (.asg (.name 2 false) (.mk .lst [(.mk .lst [(.var 4), (.var 5)]), (.mk .lst [(.var 4), (.var 5)]), (.mk .lst [(.var 4), (.var 5)]), (.mk .lst [(.var 4), (.var 5), (.lit .non)]), (.mk .lst [(.var 5)]), (.mk .lst [(.var 6), (.var 7)]), (.mk .lst [(.var 8), (.var 9), (.var 10)])])),
  (.asg (.name 3 false) (.call 15 [false, false] [(.op .ix [(.mk .lst [(.lit (.fn "set_fields")), (.lit (.fn "shifts")), (.lit (.fn "is_clean")), (.lit (.fn "accept_fields")), (.lit (.fn "sign_stop")), (.lit (.fn "least_stops")), (.lit (.fn "leaders"))]), (.var 0)]), (.op .ix [(.var 2), (.var 0)])])),
  (.ret (.ife (.op (.isi "list") [(.var 3)]) (.lit (.str "")) (.var 3)))]
def D29 : Def := ⟨[false, false], 11, false, n29⟩
theorem P29 {k : Nat} : phi tab (k+1) 29 = runD (phi tab k) D29 := rfl
/- 30 law: slots 0:script 1:state* 2:change 3:some* 4:k 5:way 6:at 7:odd -/
def EL30_0 : E := (.mk .tup [(.var 4), (.lit (.str "left"))])
def LC30_0 : E := .lc [4] (.name 4 false) .rng [(.lit (.int 20))] [] EL30_0
@[simp] theorem bwLC30_0 {r : R Sts (D × Sts)} {ρ : Sts} : bw LC30_0 ρ r = r.map fun p => (.dat p.1, p.2) := Eq.trans rfl rfl
def EL30_1 : E := (.mk .tup [(.var 4), (.lit (.str "left"))])
def LC30_1 : E := .lc [4] (.name 4 false) .rng [(.lit (.int 21))] [] EL30_1
@[simp] theorem bwLC30_1 {r : R Sts (D × Sts)} {ρ : Sts} : bw LC30_1 ρ r = r.map fun p => (.dat p.1, p.2) := Eq.trans rfl rfl
def BD30_2 : List S := [(.asg (.name 6 false) (.call 12 [true, false] [(.var 1), (.lit (.int 7))])), (.asg (.name 7 false) (.mk .lst [(.lit (.int 0)), (.lit (.int 1)), (.op .neg [(.lit (.int 1))]), (.lit (.int 100000)), (.lit (.bl true)), (.lit .non), (.lit (.str "1")), (.mk .tup []), (.mk .tup [(.mk .tup [(.lit (.int 1)), (.lit (.str "left"))])]), (.mk .tup [(.mk .tup [(.lit (.int 1)), (.lit (.str "Left"))])]), (.mk .tup [(.mk .tup [(.lit (.int 1)), (.lit (.str "left"))]), (.mk .tup [(.lit (.int 1)), (.lit (.str "left"))])]), (.mk .tup [(.mk .tup [(.lit (.int 0)), (.lit (.int 1))])]), (.op (.bin .Mult) [(.mk .tup [(.mk .tup [(.lit (.int 1)), (.lit (.int 1))])]), (.lit (.int 20))])])), (.asg (.name 7 false) (.op (.bin .Add) [(.var 7), (.mk .lst [(.op (.bin .Mult) [(.mk .tup [(.mk .tup [(.lit (.int 1)), (.lit (.int 1))])]), (.lit (.int 21))]), (.mk .tup [(.mk .tup [(.lit (.int 5000))])]), (.mk .tup [(.mk .tup [(.lit (.int 5001))])]), (.mk .tup [(.mk .tup [(.lit (.int 1))]), (.mk .tup [(.lit (.int 1)), (.lit (.int 2))])]), (.mk .tup [(.mk .tup [])]), (.mk .tup [(.op (.bin .Mult) [(.mk .tup [(.lit (.int 1))]), (.lit (.int 20))])])])])), (.asg (.name 7 false) (.op (.bin .Add) [(.var 7), (.mk .lst [(.mk .tup [(.op (.bin .Mult) [(.mk .tup [(.lit (.int 1))]), (.lit (.int 21))])]), (.op .tuple [LC30_0]), (.op .tuple [LC30_1]), (.mk .tup [(.mk .tup [(.lit (.int 100000)), (.lit (.str "sign"))])]), (.mk .tup [(.mk .tup [(.lit (.int 100001)), (.lit (.str "sign"))])])])])), (.seti 3 (.var 6) (.ife (.op (.cmp .Eq) [(.call 12 [true, false] [(.var 1), (.lit (.int 2))]), (.lit (.int 0))]) (.call 18 [true, false, false] [(.var 1), (.op .ix [(.var 3), (.var 6)]), (.lit (.int 3))]) (.call 13 [true, false] [(.var 1), (.var 7)])))]
def FR30_2 : S := .for (.name 4 false) .rng [(.ife (.op (.cmp .Gt) [(.var 2), (.lit (.int 0))]) (.call 13 [true, false] [(.var 1), (.mk .lst [(.lit (.int 1)), (.lit (.int 1)), (.lit (.int 2)), (.lit (.int 3))])]) (.lit (.int 0)))] BD30_2
def BD30_3 : List S := [(.ite (.op (.cmp .NotEq) [(.call 29 [false, false] [(.var 5), (.var 3)]), (.call 28 [false, false] [(.var 5), (.var 3)])]) [(.ret (.lit (.bl false)))] [])]
def FR30_3 : S := .for (.name 5 false) .rng [(.lit (.int 7))] BD30_3
def BD30_4 : List S := [(.asg (.name 3 true) (.mk .lst [(.mk .tup [(.mk .tup [(.lit (.int 10)), (.lit (.str "right"))]), (.mk .tup [(.lit (.int 30)), (.lit (.str "sign"))]), (.mk .tup [(.lit (.int 50)), (.lit (.str "middle"))])]), (.mk .tup [(.mk .tup [(.lit (.int 15)), (.lit (.int 0))]), (.mk .tup [(.lit (.int 8)), (.lit (.int 3))])]), (.mk .tup [(.mk .tup [(.lit (.int 3)), (.lit (.int 5))]), (.mk .tup [(.lit (.int 7)), (.lit (.int 1))])]), (.lit (.int 2)), (.lit (.int 11)), (.lit (.int 30)), (.lit (.int 6))])), FR30_2, FR30_3]
def FR30_4 : S := .for (.name 2 false) .rng [(.lit (.int 9))] BD30_4
def n30 : List S := [(.asg (.name 1 true) (.call 11 [false] [(.var 0)])),
  (.ite (.or (.ife (.call 24 [true] [(.var 1)]) (.lit (.bl false)) (.lit (.bl true))) (.ife (.call 24 [true] [(.var 1)]) (.lit (.bl false)) (.lit (.bl true)))) [(.ret (.lit (.bl false)))] []),
  FR30_4,
  (.ret (.lit (.bl true)))]
def D30 : Def := ⟨[false], 8, false, n30⟩
theorem P30 {k : Nat} : phi tab (k+1) 30 = runD (phi tab k) D30 := rfl
end W
namespace W
open PySem DL L2
variable {k : Nat} {Φ : Nat → Fn}
/-! ## what all laws have: ints, draws, what is the same -/
theorem q12 : b12 = drawB := rfl
theorem q11 : b11 = startB := rfl
theorem q13 : b13 = pickB 12 := rfl
theorem q14 : b14 = sameB := rfl
theorem f12 {d : D} {m : Int} (hm : 0 < m) (hm2 : m < 1073741824) (h : IsSt d) : ∃ v d', phi tab (k+1) 12 [d, .int m] = .ok (.val (.int v), [d']) ∧ 0 ≤ v ∧ v < m ∧ IsSt d' :=
  draw_ok (Φ := phi tab k) (ro := false) hm hm2 h
theorem f13 {d : D} {xs : List D} (h0 : xs ≠ []) (h1 : xs.length < 1073741824) (h : IsSt d) : ∃ x d', phi tab (k+2) 13 [d, .lst xs] = .ok (.val x, [d']) ∧ x ∈ xs ∧ IsSt d' :=
  pick_ok (Φ := phi tab (k+1)) (j := 12) (ro := false) (.inr ⟨phi tab k, rfl⟩) h0 h1 h
theorem f11 {l : List Int} : ∃ d', phi tab (k+1) 11 [.rol (l.map .int)] = .ok (.own d', []) ∧ IsSt d' :=
  start_ok (Φ := phi tab k)
theorem f14 {d : D} (h : reprOk d = true) : phi tab (k+1) 14 [d, d] = .ok (.val (.bl true), []) :=
  same_ok (Φ := phi tab k) h
structure Draws (Φ : Nat → Fn) : Prop where
  dr : ∀ (d : D) (m : Int), 0 < m → m < 1073741824 → IsSt d → ∃ v d', Φ 12 [d, .int m] = .ok (.val (.int v), [d']) ∧ 0 ≤ v ∧ v < m ∧ IsSt d'
  pk : ∀ (d : D) (xs : List D), xs ≠ [] → xs.length < 1073741824 → IsSt d → ∃ x d', Φ 13 [d, .lst xs] = .ok (.val x, [d']) ∧ x ∈ xs ∧ IsSt d'
theorem draws_phi : Draws (phi tab (k+2)) := ⟨fun d m h1 h2 h => f12 h1 h2 h, fun d xs h1 h2 h => f13 h1 h2 h⟩
/-- a draw of one of some ints -/
theorem Draws.pi (dw : Draws Φ) (d : D) (is : List Int) (h0 : is ≠ []) (h1 : is.length < 1073741824) (h : IsSt d) : ∃ i d', Φ 13 [d, .lst (is.map .int)] = .ok (.val (.int i), [d']) ∧ i ∈ is ∧ IsSt d' := by
  obtain ⟨x, d', e, hx, s⟩ := dw.pk d (is.map .int) (by simpa using h0) (by simpa using h1) h
  obtain ⟨i, hi, rfl⟩ := List.mem_map.mp hx
  exact ⟨i, d', e, hi, s⟩
/-- is_integer of an int -/
theorem body0 {i : Int} : runD Φ D0 [.int i] = .ok (.val (.bl true), []) := by
  rw [runD_of rfl]
  simp [D0, n0]
end W
namespace W
open PySem DL L2
variable {k : Nat} {Φ : Nat → Fn}
/-! ## stops and fields -/
abbrev isI (Φ : Nat → Fn) : Prop := ∀ i : Int, Φ 0 [.int i] = .ok (.val (.bl true), [])
inductive Wy where
  | lf | rt | md | sg
def Wy.s : Wy → Str
  | .lf => "left"
  | .rt => "right"
  | .md => "middle"
  | .sg => "sign"
structure Stp where
  p : Int
  w : Wy
structure Fld where
  w : Int
  a : Int
def Stp.d (s : Stp) : D := .tup [.int s.p, .str s.w.s]
def Fld.d (f : Fld) : D := .tup [.int f.w, .int f.a]
def sd (ss : List Stp) : List D := ss.map Stp.d
def fd (fs : List Fld) : List D := fs.map Fld.d
structure Sps (ss : List Stp) : Prop where
  l0 : 1 ≤ ss.length
  l1 : ss.length ≤ 20
  up : ss.Pairwise fun a b => a.p < b.p
  lo : ∀ s ∈ ss, 0 ≤ s.p
  hi : ∀ s ∈ ss, s.p ≤ 100000
structure Fds (fs : List Fld) : Prop where
  l1 : fs.length ≤ 20
  a0 : ∀ f ∈ fs, 0 ≤ f.a
  aw : ∀ f ∈ fs, f.a ≤ f.w
  w1 : ∀ f ∈ fs, f.w ≤ 100000
theorem sd_len {ss : List Stp} : (sd ss).length = ss.length := by unfold sd; simp
theorem fd_len {ss : List Fld} : (fd ss).length = ss.length := by unfold fd; simp
theorem sd_at {ss : List Stp} {i : Nat} {s : Stp} (h : ss[i]? = some s) : atI (sd ss) (i : Int) = some s.d := atI_nat (by unfold sd; rw [List.getElem?_map, h]; rfl)
theorem st_ix {s : Stp} : opf .ix [s.d, .int 0] = some (.val (.int s.p)) ∧ opf .ix [s.d, .int 1] = some (.val (.str s.w.s)) := by simp [Stp.d]
theorem fl_ix {s : Fld} : opf .ix [s.d, .int 0] = some (.val (.int s.w)) ∧ opf .ix [s.d, .int 1] = some (.val (.int s.a)) := by simp [Fld.d]
theorem in_ways (w : Wy) : cmpf .NotIn (.str w.s) (.tup [.str "left", .str "right", .str "middle", .str "sign"]) = some false := by cases w <;> decide +kernel
def lastP (ss : List Stp) : Int := (ss.getLast?.map Stp.p).getD (-1)
theorem lastP_app {ss : List Stp} {s : Stp} : lastP (ss ++ [s]) = s.p := by unfold lastP; simp
theorem lastP_lt {ss post : List Stp} {s : Stp} (h : Sps (ss ++ s :: post)) : lastP ss < s.p := by
  unfold lastP
  cases q : ss.getLast? with
  | none => have := h.lo s (by simp); simp; omega
  | some x =>
    have hx := List.mem_of_getLast? q
    have := (List.pairwise_append.mp h.up).2.2 x hx s (by simp)
    simpa using this
theorem body1 (hi : isI Φ) {ss : List Stp} (h : Sps ss) : runD Φ D1 [.tup (sd ss)] = .ok (.val .non, []) := by
  have l0 := h.l0
  have l1 := h.l1
  obtain ⟨ρ', f1, t2, f2⟩ := for_ty (Φ := Φ) (t := .name 2 false) (k := .it) (src := [.var 0]) (b := BD1_0) (ρ := [.val (.tup (sd ss)), .val (.int (-1)), .emp]) (ρ1 := [.val (.tup (sd ss)), .val (.int (-1)), .emp]) (ds := [.tup (sd ss)]) ss Stp.d (fun pre ρ => ∃ t2, ρ = [.val (.tup (sd ss)), .val (.int (lastP pre)), t2]) rfl rfl (fun pre s post ρ hp ⟨t2, hρ⟩ => by
    subst hρ
    have a1 := lastP_lt (by rw [← hp]; exact h)
    have a2 := h.hi s (by rw [hp]; simp)
    obtain ⟨i0, i1⟩ := st_ix (s := s)
    have it : opf (.isi "tuple") [s.d] = some (.val (.bl true)) := by simp [Stp.d]
    have ln : opf .len [s.d] = some (.val (.int 2)) := by simp [Stp.d]
    have nw := in_ways s.w
    refine ⟨[.val (.tup (sd ss)), .val (.int (lastP pre)), .val s.d], [.val (.tup (sd ss)), .val (.int (lastP (pre ++ [s]))), .val s.d], rfl, .inl ?_, _, rfl⟩
    rw [lastP_app]
    generalize s.d = X at *
    generalize sd ss = A at *
    generalize lastP pre = la at *
    simp [BD1_0, it, ln, i0, i1, hi s.p, a1, a2, nw]) ⟨.emp, rfl⟩
  subst f2
  have f1' : evS Φ FR1_0 _ = _ := f1
  have x1 : (1 : Int) ≤ (sd ss).length := by rw [sd_len]; omega
  have x2 : ((sd ss).length : Int) ≤ 20 := by rw [sd_len]; omega
  generalize sd ss = A at *
  have fin : evSs Φ n1 [.val (.tup A), .emp, .emp] = .ok (.nx [.val (.tup A), .val (.int (lastP ss)), t2]) := by
    simp [n1, x1, x2, f1']
  exact runD_nx (d := D1) (ds := [.tup A]) rfl fin rfl
theorem body2 (hi : isI Φ) {fs : List Fld} (h : Fds fs) : runD Φ D2 [.tup (fd fs)] = .ok (.val .non, []) := by
  have l1 := h.l1
  obtain ⟨ρ', f1, t1, f2⟩ := for_ty (Φ := Φ) (t := .name 1 false) (k := .it) (src := [.var 0]) (b := BD2_1) (ρ := [.val (.tup (fd fs)), .emp, .emp]) (ρ1 := [.val (.tup (fd fs)), .emp, .emp]) (ds := [.tup (fd fs)]) fs Fld.d (fun pre ρ => ∃ t1, ρ = [.val (.tup (fd fs)), t1, .emp]) rfl rfl (fun pre s post ρ hp ⟨t1, hρ⟩ => by
    subst hρ
    have a1 := h.a0 s (by rw [hp]; simp)
    have a2 := h.aw s (by rw [hp]; simp)
    have a3 := h.w1 s (by rw [hp]; simp)
    obtain ⟨i0, i1⟩ := fl_ix (s := s)
    have it : opf (.isi "tuple") [s.d] = some (.val (.bl true)) := by simp [Fld.d]
    have ln : opf .len [s.d] = some (.val (.int 2)) := by simp [Fld.d]
    have e := lc_ty0S (Φ := Φ) (vs := [2]) (t := .name 2 false) (k := .it) (src := [.var 1]) (elt := EL2_0) (ρ := [.val (.tup (fd fs)), .val s.d, .emp]) [s.d] [s.w, s.a] D.int (fun _ => D.bl true) rfl rfl rfl rfl
      (fun x hx => ⟨[.val (.tup (fd fs)), .val s.d, .val (.int x)], rfl, by
        generalize fd fs = A
        generalize s.d = X
        simp [EL2_0, hi x], rfl⟩) (by show 2 ≤ 16777216; omega)
    have e' : ev Φ LC2_0 _ = _ := e
    have al := all_true (xs := [s.w, s.a])
    refine ⟨[.val (.tup (fd fs)), .val s.d, .emp], [.val (.tup (fd fs)), .val s.d, .emp], rfl, .inl ?_, _, rfl⟩
    generalize ([s.w, s.a].map fun _ => D.bl true) = B at *
    generalize s.d = X at *
    generalize fd fs = A at *
    simp [BD2_1, it, ln, i0, i1, e', al, a1, a2, a3]) ⟨.emp, rfl⟩
  subst f2
  have f1' : evS Φ FR2_1 _ = _ := f1
  have x2 : ¬ ((20 : Int) < (fd fs).length) := by rw [fd_len]; omega
  generalize fd fs = A at *
  have fin : evSs Φ n2 [.val (.tup A), .emp, .emp] = .ok (.nx [.val (.tup A), t1, .emp]) := by
    simp [n2, x2, f1']
  exact runD_nx (d := D2) (ds := [.tup A]) rfl fin rfl
/-! ## where a field begins -/
def wtd (s : Stp) (f : Fld) : Int := match s.w with
  | .lf => s.p
  | .rt => s.p - f.w
  | .md => s.p - f.w.fdiv 2
  | .sg => s.p - f.a
theorem div2 {i : Int} : binf .FloorDiv (.int i) (.int 2) = some (.val (.int (i.fdiv 2))) := bin_div (divOk_of (by decide) (by decide))
theorem eq_s {a b : Str} : cmpf .Eq (.str a) (.str b) = some (decide (a = b)) := rfl
theorem body3 {s : Stp} {f : Fld} : runD Φ D3 [s.d, f.d] = .ok (.val (.int (wtd s f)), []) := by
  obtain ⟨p, w⟩ := s
  obtain ⟨fw, fa⟩ := f
  have d2 := div2 (i := fw)
  have q1 : ¬ (("right" : Str) = "left") := by decide
  have q2 : ¬ (("middle" : Str) = "left") := by decide
  have q3 : ¬ (("middle" : Str) = "right") := by decide
  have q4 : ¬ (("sign" : Str) = "left") := by decide
  have q5 : ¬ (("sign" : Str) = "right") := by decide
  have q6 : ¬ (("sign" : Str) = "middle") := by decide
  have fin : evSs Φ n3 [.val (.tup [.int p, .str w.s]), .val (.tup [.int fw, .int fa]), .emp, .emp, .emp, .emp] = .ok (.rt (.val (.int (wtd ⟨p, w⟩ ⟨fw, fa⟩))) [.val (.tup [.int p, .str w.s]), .val (.tup [.int fw, .int fa]), .val (.int p), .val (.str w.s), .val (.int fw), .val (.int fa)]) := by
    cases w <;> simp [n3, wtd, Wy.s, d2, q1, q2, q3, q4, q5, q6, eq_s]
  exact runD_rt (d := D3) (ds := [.tup [.int p, .str w.s], .tup [.int fw, .int fa]]) rfl fin rfl rfl
def offW (w : Wy) (fw fa : Int) : Int := match w with
  | .lf => 0
  | .rt => fw
  | .md => fw.fdiv 2
  | .sg => fa
theorem body21 {s : Stp} {f : Fld} : runD Φ D21 [s.d, f.d] = .ok (.val (.int (wtd s f)), []) := by
  obtain ⟨p, w⟩ := s
  obtain ⟨fw, fa⟩ := f
  have d2 := div2 (i := fw)
  have dc : ∀ x : Int, opf .dict [.lst [.tup [.str "left", .int 0], .tup [.str "right", .int fw], .tup [.str "middle", .int x], .tup [.str "sign", .int fa]]] = some (.own (.dic [(.inr "left", .int 0), (.inr "right", .int fw), (.inr "middle", .int x), (.inr "sign", .int fa)])) := fun x => rfl
  have ix : opf .ix [.dic [(.inr "left", .int 0), (.inr "right", .int fw), (.inr "middle", .int (fw.fdiv 2)), (.inr "sign", .int fa)], .str w.s] = some (.val (.int (offW w fw fa))) := by cases w <;> rfl
  have e : wtd ⟨p, w⟩ ⟨fw, fa⟩ = p - offW w fw fa := by cases w <;> simp [wtd, offW]
  rw [e]
  generalize offW w fw fa = y at *
  have fin : evSs Φ n21 [.val (.tup [.int p, .str w.s]), .val (.tup [.int fw, .int fa])] = .ok (.rt (.val (.int (p - y))) [.val (.tup [.int p, .str w.s]), .val (.tup [.int fw, .int fa])]) := by
    generalize w.s = ws at *
    simp [n21, d2, dc, ix]
  exact runD_rt (d := D21) (ds := [.tup [.int p, .str w.s], .tup [.int fw, .int fa]]) rfl fin rfl rfl
end W
namespace W
open PySem DL L2
variable {k : Nat} {Φ : Nat → Fn}
/-! ## fields at stops -/
def nmz (S : List Nat) : List D := S.map fun (i : Nat) => D.int i
def geP (S : List Stp) (n : Nat) (e : Int) : Bool := match S[n]? with
  | some s => decide (e ≤ s.p)
  | none => false
def lefts (S : List Stp) (u : Nat) (e : Int) : List Nat := ((List.range (S.length - u)).filter fun i => geP S (u + i) e).map fun i => u + i
theorem lefts_head {S : List Stp} {u : Nat} {e : Int} : (lefts S u e).head? = ((List.range (S.length - u)).find? fun i => geP S (u + i) e).map fun i => u + i := by
  unfold lefts
  rw [List.head?_map, List.head?_filter]
theorem lefts_none {S : List Stp} {u : Nat} {e : Int} (h : ∀ i, u ≤ i → i < S.length → geP S i e = false) : (lefts S u e).head? = none := by
  rw [lefts_head]
  have : (List.range (S.length - u)).find? (fun i => geP S (u + i) e) = none := by
    rw [List.find?_eq_none]
    intro i hi
    have := List.mem_range.mp hi
    rw [h (u + i) (by omega) (by omega)]; simp
  rw [this]; rfl
theorem lefts_some {S : List Stp} {u j : Nat} {e : Int} (h1 : u ≤ j) (h2 : j < S.length) (h3 : geP S j e = true) (h : ∀ i, u ≤ i → i < j → geP S i e = false) : (lefts S u e).head? = some j := by
  rw [lefts_head]
  have : (List.range (S.length - u)).find? (fun i => geP S (u + i) e) = some (j - u) := by
    rw [List.find?_range_eq_some]
    refine ⟨by rw [show u + (j - u) = j by omega]; exact h3, List.mem_range.mpr (by omega), fun i hi => ?_⟩
    rw [h (u + i) (by omega) (by omega)]; rfl
  rw [this]
  show some (u + (j - u)) = some j
  congr 1; omega
theorem lefts_mem {S : List Stp} {u n : Nat} {e : Int} (h : (lefts S u e).head? = some n) : u ≤ n ∧ n < S.length ∧ geP S n e = true := by
  have hm := List.mem_of_head? h
  unfold lefts at hm
  obtain ⟨i, hi, rfl⟩ := List.mem_map.mp hm
  obtain ⟨a, b⟩ := List.mem_filter.mp hi
  have := List.mem_range.mp a
  exact ⟨by omega, by omega, b⟩
def mx (x y : Int) : Int := if y > x then y else x
def sf (S : List Stp) : List Fld → Nat → Int → List (Option (Nat × Int))
  | [], _, _ => []
  | f :: fs, u, e => match (lefts S u e).head? with
    | none => [none]
    | some n => match S[n]? with
      | none => [none]
      | some s => some (n, mx e (wtd s f)) :: sf S fs (n + 1) (mx e (wtd s f) + f.w)
def rowD : Option (Nat × Int) → D
  | some p => .tup [.int (p.1 : Nat), .int p.2]
  | none => .non
def rws (L : List (Option (Nat × Int))) : List D := L.map rowD
def acD (L : List (Nat × Int)) : List D := L.map fun p => D.tup [.int (p.1 : Nat), .int p.2]
theorem rws_some {L : List (Nat × Int)} : rws (L.map some) = acD L := by unfold rws acD; rw [List.map_map]; rfl
theorem acD_len {L : List (Nat × Int)} : (acD L).length = L.length := by unfold acD; simp
theorem acD_app {L : List (Nat × Int)} {n : Nat} {p : Int} : acD (L ++ [(n, p)]) = acD L ++ [D.tup [.int n, .int p]] := by unfold acD; simp
theorem lf_ev {S : List Stp} (h : Sps S) {u : Nat} {e x : Int} (hu : u ≤ S.length) (hx : x + 1 = u) {s1 s2 s5 s6 s7 : Slot} :
    ev Φ LC4_0 [.val (.tup (sd S)), s1, s2, .val (.int e), .val (.int x), s5, s6, s7, .emp] = .ok (.own (.lst (nmz (lefts S u e))), [.val (.tup (sd S)), s1, s2, .val (.int e), .val (.int x), s5, s6, s7, .emp]) := by
  have l1 := h.l1
  have ln : ((sd S).length : Int) = (S.length : Nat) := by rw [sd_len]
  have q : nmz (lefts S u e) = ((List.range (S.length - u)).filter fun i => geP S (u + i) e).map fun i => D.int ((u + i : Nat) : Int) := by unfold nmz lefts; rw [List.map_map]; rfl
  rw [q]
  exact lc_tyS (Φ := Φ) (vs := [8]) (t := .name 8 false) (k := .rng) (src := [(.op (.bin .Add) [(.var 4), (.lit (.int 1))]), (.op .len [(.var 0)])]) (ifs := IF4_0) (elt := EL4_0) (ρ := [.val (.tup (sd S)), s1, s2, .val (.int e), .val (.int x), s5, s6, s7, .emp]) [.int (x + 1), .int (S.length : Nat)] (List.range (S.length - u)) (fun i => D.int ((u + i : Nat) : Int)) _ _ (by
      generalize sd S = A at *
      simp [ln]) (by
      refine (rngN2 (a := u) hx (by omega) (by omega)).trans ?_
      have : (((S.length : Nat) : Int) - (u : Int)).toNat = S.length - u := by omega
      rw [this]) rfl rfl
    (fun i hi => ⟨[.val (.tup (sd S)), s1, s2, .val (.int e), .val (.int x), s5, s6, s7, .val (.int ((u + i : Nat) : Int))], rfl, by
      have hi := List.mem_range.mp hi
      have ha : S[u + i]? = some S[u + i] := List.getElem?_eq_getElem (by omega)
      have at_ := sd_at ha
      have i0 := (st_ix (s := S[u + i])).1
      have gp : geP S (u + i) e = decide (e ≤ S[u + i].p) := by unfold geP; rw [ha]
      rw [gp]
      clear gp ha
      generalize S[u + i].p = p at *
      generalize S[u + i].d = X at *
      generalize sd S = A at *
      generalize ((u + i : Nat) : Int) = y at *
      by_cases c : e ≤ p <;> simp [IF4_0, at_, i0, c], fun _ => by
      generalize sd S = A
      generalize ((u + i : Nat) : Int) = y
      simp [EL4_0], rfl⟩) (by rw [List.length_range]; show _ ≤ 16777216; omega)
theorem nmz_head {L : List Nat} {n : Nat} (h : L.head? = some n) : atI (nmz L) 0 = some (.int n) ∧ (nmz L).isEmpty = false := by
  cases L with
  | nil => cases h
  | cons a l =>
    have : a = n := Option.some.inj h
    subst this
    exact ⟨by show atI (D.int (a : Nat) :: nmz l) 0 = _; simp, rfl⟩
theorem nmz_none {L : List Nat} (h : L.head? = none) : nmz L = [] := by
  cases L with
  | nil => rfl
  | cons a l => cases h
abbrev wtI (Φ : Nat → Fn) (j : Nat) : Prop := ∀ (s : Stp) (f : Fld), Φ j [s.d, f.d] = .ok (.val (.int (wtd s f)), [])
abbrev ckS (Φ : Nat → Fn) (S : List Stp) (F : List Fld) : Prop := Φ 1 [.tup (sd S)] = .ok (.val .non, []) ∧ Φ 2 [.tup (fd F)] = .ok (.val .non, [])
theorem body4 {S : List Stp} (hS : Sps S) {F : List Fld} (hF : Fds F) (ck : ckS Φ S F) (hw : wtI Φ 3) : runD Φ D4 [.tup (sd S), .tup (fd F)] = .ok (.val (.tup (rws (sf S F 0 0))), []) := by
  obtain ⟨h1, h2⟩ := ck
  have fl := hF.l1
  have dft : ∀ d : D, opf .tru [d] = DL.b1 (truth d) := fun _ => Eq.trans rfl rfl
  have z := for_all (Φ := Φ) (t := .name 5 false) (k := .it) (src := [.var 1]) (b := BD4_1) (ρ := [.val (.tup (sd S)), .val (.tup (fd F)), .own (.lst []), .val (.int 0), .val (.int (-1)), .emp, .emp, .emp, .emp]) (ρ1 := [.val (.tup (sd S)), .val (.tup (fd F)), .own (.lst []), .val (.int 0), .val (.int (-1)), .emp, .emp, .emp, .emp]) (ds := [.tup (fd F)]) F Fld.d
    (fun pre ρ => ∃ acc u e x t5 t6 t7, ρ = [.val (.tup (sd S)), .val (.tup (fd F)), .own (.lst (acD acc)), .val (.int e), .val (.int x), t5, t6, t7, .emp] ∧ x + 1 = ((u : Nat) : Int) ∧ u ≤ S.length ∧ acc.length ≤ pre.length ∧ sf S F 0 0 = acc.map some ++ sf S (F.drop pre.length) u e)
    (fun _ => False) (fun s ρ => s = .val (.tup (rws (sf S F 0 0))) ∧ ∃ t0 t1 t2 t3 t4 t5 t6 t7 t8, ρ = [t0, t1, t2, t3, t4, t5, t6, t7, t8] ∧ outIos [false, false] ρ = some []) rfl rfl (fun pre f post ρ hp ⟨acc, u, e, x, t5, t6, t7, hρ, hx, hu, ha, hs⟩ => by
      subst hρ
      have pl : pre.length < F.length := by rw [hp]; simp
      have hd : F.drop pre.length = f :: post := by rw [hp]; simp
      have hd2 : F.drop (pre ++ [f]).length = post := by rw [hp]; simp
      rw [hd] at hs
      have le := fun s1 s2 s5 s6 s7 => lf_ev (Φ := Φ) hS hu hx (e := e) (s1 := s1) (s2 := s2) (s5 := s5) (s6 := s6) (s7 := s7)
      refine ⟨[.val (.tup (sd S)), .val (.tup (fd F)), .own (.lst (acD acc)), .val (.int e), .val (.int x), .val f.d, t6, t7, .emp], rfl, ?_⟩
      cases hh : (lefts S u e).head? with
      | none =>
        have hs' : sf S (f :: post) u e = [none] := by unfold sf; rw [hh]
        rw [hs'] at hs
        rw [nmz_none hh] at le
        have ap := bin_apT (xs := acD acc) (ys := [.non]) (by rw [acD_len]; simp; omega)
        have rr : rws (sf S F 0 0) = acD acc ++ [.non] := by rw [hs]; unfold rws; rw [List.map_append]; show rws (acc.map some) ++ _ = _; rw [rws_some]; rfl
        rw [rr]
        refine .inr (.inr ⟨_, [.val (.tup (sd S)), .val (.tup (fd F)), .own (.lst (acD acc)), .val (.int e), .val (.int x), .val f.d, .val (.lst []), t7, .emp], ?_, rfl, _, _, _, _, _, _, _, _, _, rfl, rfl⟩)
        generalize acD acc ++ [.non] = R at *
        generalize acD acc = A2 at *
        generalize f.d = X at *
        generalize sd S = A at *
        generalize fd F = B at *
        simp [BD4_1, le, dft, ap]
      | some n =>
        obtain ⟨n0, n1, n2⟩ := lefts_mem hh
        have hn : S[n]? = some S[n] := List.getElem?_eq_getElem n1
        have hs' : sf S (f :: post) u e = some (n, mx e (wtd S[n] f)) :: sf S post (n + 1) (mx e (wtd S[n] f) + f.w) := by
          conv => lhs; unfold sf
          rw [hh]; dsimp only; rw [hn]
        rw [hs'] at hs
        obtain ⟨g1, g2⟩ := nmz_head hh
        have at_ := sd_at hn
        have w := hw S[n] f
        have i0 := (fl_ix (s := f)).1
        have ap : muf .append (.lst (acD acc)) [.tup [.int n, .int (mx e (wtd S[n] f))]] = some (.non, .lst (acD (acc ++ [(n, mx e (wtd S[n] f))]))) := by
          rw [muf_app (by rw [acD_len]; show _ < 16777216; omega), acD_app]
        have mxe : opf .max [.int e, .int (wtd S[n] f)] = some (.val (.int (mx e (wtd S[n] f)))) := opf_max2
        refine .inl ⟨[.val (.tup (sd S)), .val (.tup (fd F)), .own (.lst (acD (acc ++ [(n, mx e (wtd S[n] f))]))), .val (.int (mx e (wtd S[n] f) + f.w)), .val (.int n), .val f.d, .val (.lst (nmz (lefts S u e))), .val (.int (mx e (wtd S[n] f))), .emp], .inl ?_, acc ++ [(n, mx e (wtd S[n] f))], n + 1, _, n, _, _, _, rfl, by omega, by omega, by simp; omega, ?_⟩
        · generalize acD (acc ++ [(n, mx e (wtd S[n] f))]) = R at *
          generalize mx e (wtd S[n] f) = y at *
          generalize wtd S[n] f = y2 at *
          generalize acD acc = A2 at *
          generalize S[n].d = Z at *
          generalize f.d = X at *
          generalize sd S = A at *
          generalize fd F = B at *
          generalize nmz (lefts S u e) = L at *
          simp [BD4_1, le, dft, g1, g2, at_, w, ap, i0, mxe, -opf_max2]
        · rw [hd2, hs, List.map_append, List.append_assoc]; rfl) ⟨[], 0, 0, -1, .emp, .emp, .emp, rfl, rfl, Nat.zero_le _, Nat.le_refl _, rfl⟩
  rcases z with ⟨ρ', f1, ⟨acc, u, e, x, t5, t6, t7, hρ, hx, hu, ha, hs⟩ | hf⟩ | ⟨s, ρ', f1, hs, t0, t1, t2, t3, t4, t5, t6, t7, t8, hρ, ho⟩
  · subst hρ
    rw [List.drop_length] at hs
    have hs : sf S F 0 0 = acc.map some := by rw [hs]; unfold sf; simp
    rw [hs, rws_some]
    have f1' : evS Φ FR4_1 _ = _ := f1
    generalize acD acc = A2 at *
    generalize sd S = A at *
    generalize fd F = B at *
    have fin : evSs Φ n4 [.val (.tup A), .val (.tup B), .emp, .emp, .emp, .emp, .emp, .emp, .emp] = .ok (.rt (.val (.tup A2)) [.val (.tup A), .val (.tup B), .own (.lst A2), .val (.int e), .val (.int x), t5, t6, t7, .emp]) := by
      simp [n4, h1, h2, f1']
    exact runD_rt (d := D4) (ds := [.tup A, .tup B]) rfl fin rfl rfl
  · exact hf.elim
  · subst hs hρ
    have f1' : evS Φ FR4_1 _ = _ := f1
    generalize rws (sf S F 0 0) = A2 at *
    generalize sd S = A at *
    generalize fd F = B at *
    have fin : evSs Φ n4 [.val (.tup A), .val (.tup B), .emp, .emp, .emp, .emp, .emp, .emp, .emp] = .ok (.rt (.val (.tup A2)) [t0, t1, t2, t3, t4, t5, t6, t7, t8]) := by
      simp [n4, h1, h2, f1']
    exact runD_rt (d := D4) (ds := [.tup A, .tup B]) rfl fin ho rfl
end W
namespace W
open PySem DL L2
variable {k : Nat} {Φ : Nat → Fn}
theorem geP_at {S : List Stp} {j : Nat} {s : Stp} {e : Int} (h : S[j]? = some s) : geP S j e = decide (e ≤ s.p) := by unfold geP; rw [h]
/-- the law's search for a stop -/
theorem seek {S : List Stp} (h : Sps S) {u : Nat} (hu : u ≤ S.length) {e : Int} {s1 s2 s3 s6 : Slot} :
    ∃ j, evS Φ WH22_0 [.val (.tup (sd S)), s1, s2, s3, .val (.int e), .val (.int (u : Nat)), s6] = .ok (.nx [.val (.tup (sd S)), s1, s2, s3, .val (.int e), .val (.int (j : Nat)), s6]) ∧ u ≤ j ∧ j ≤ S.length ∧ (∀ i, u ≤ i → i < j → geP S i e = false) ∧ (j < S.length → geP S j e = true) := by
  have l1 := h.l1
  have ln : ((sd S).length : Int) = (S.length : Nat) := by rw [sd_len]
  obtain ⟨ρ', f1, j, hρ, q⟩ := evS_whla (Φ := Φ) (t := TS22_0) (b := BD22_0) (m := S.length - u) (ρ := [.val (.tup (sd S)), s1, s2, s3, .val (.int e), .val (.int (u : Nat)), s6])
    (fun m ρ => ∃ j : Nat, ρ = [.val (.tup (sd S)), s1, s2, s3, .val (.int e), .val (.int j), s6] ∧ m = S.length - j ∧ u ≤ j ∧ j ≤ S.length ∧ ∀ i, u ≤ i → i < j → geP S i e = false)
    (fun ρ => ∃ j : Nat, ρ = [.val (.tup (sd S)), s1, s2, s3, .val (.int e), .val (.int j), s6] ∧ u ≤ j ∧ j ≤ S.length ∧ (∀ i, u ≤ i → i < j → geP S i e = false) ∧ (j < S.length → geP S j e = true))
    (fun m ρ ⟨j, hρ, hm, hj, hl, hb⟩ => by
      subst hρ
      by_cases c : j < S.length
      · have c' : (j : Int) < (S.length : Nat) := by omega
        have ha : S[j]? = some S[j] := List.getElem?_eq_getElem c
        have at_ := sd_at ha
        have i0 := (st_ix (s := S[j])).1
        have gp := geP_at (e := e) ha
        by_cases g : S[j].p < e
        · right
          refine ⟨[.val (.tup (sd S)), s1, s2, s3, .val (.int e), .val (.int j), s6], [.val (.tup (sd S)), s1, s2, s3, .val (.int e), .val (.int ((j + 1 : Nat) : Int)), s6], S.length - (j + 1), ?_, .inl ?_, by omega, j + 1, rfl, rfl, by omega, by omega, fun i h1 h2 => ?_⟩
          · generalize S[j].p = p at *
            generalize S[j].d = X at *
            generalize sd S = A at *
            generalize (j : Int) = y at *
            generalize ((S.length : Nat) : Int) = n at *
            simp [TS22_0, ln, c', at_, i0, g]
          · have z : ((j + 1 : Nat) : Int) = (j : Int) + 1 := by omega
            rw [z]
            generalize sd S = A
            generalize (j : Int) = y
            simp [BD22_0]
          · by_cases ij : i = j
            · subst ij; rw [gp]; simp; omega
            · exact hb i h1 (by omega)
        · left
          refine ⟨[.val (.tup (sd S)), s1, s2, s3, .val (.int e), .val (.int j), s6], ?_, j, rfl, hj, hl, hb, fun _ => by rw [gp]; simp; omega⟩
          generalize S[j].p = p at *
          generalize S[j].d = X at *
          generalize sd S = A at *
          generalize (j : Int) = y at *
          generalize ((S.length : Nat) : Int) = n at *
          simp [TS22_0, ln, c', at_, i0, g]
      · left
        have c' : ¬ ((j : Int) < (S.length : Nat)) := by omega
        refine ⟨[.val (.tup (sd S)), s1, s2, s3, .val (.int e), .val (.int j), s6], ?_, j, rfl, hj, hl, hb, fun w => absurd w c⟩
        generalize sd S = A at *
        generalize (j : Int) = y at *
        generalize ((S.length : Nat) : Int) = n at *
        simp [TS22_0, ln, c']) ⟨u, rfl, rfl, Nat.le_refl _, hu, fun i h1 h2 => by omega⟩ (lt_fuel (by omega))
  subst hρ
  exact ⟨j, f1, q⟩
theorem body22 {S : List Stp} (hS : Sps S) {F : List Fld} (hF : Fds F) (hw : wtI Φ 21) : runD Φ D22 [.tup (sd S), .tup (fd F)] = .ok (.val (.tup (rws (sf S F 0 0))), []) := by
  have fl := hF.l1
  have ln : ((sd S).length : Int) = (S.length : Nat) := by rw [sd_len]
  have z := for_all (Φ := Φ) (t := .name 2 false) (k := .it) (src := [.var 1]) (b := BD22_1) (ρ := [.val (.tup (sd S)), .val (.tup (fd F)), .emp, .own (.lst []), .val (.int 0), .val (.int 0), .emp]) (ρ1 := [.val (.tup (sd S)), .val (.tup (fd F)), .emp, .own (.lst []), .val (.int 0), .val (.int 0), .emp]) (ds := [.tup (fd F)]) F Fld.d
    (fun pre ρ => ∃ acc u e t2 t6, ρ = [.val (.tup (sd S)), .val (.tup (fd F)), t2, .own (.lst (acD acc)), .val (.int e), .val (.int (u : Nat)), t6] ∧ u ≤ S.length ∧ acc.length ≤ pre.length ∧ sf S F 0 0 = acc.map some ++ sf S (F.drop pre.length) u e)
    (fun _ => False) (fun s ρ => s = .val (.tup (rws (sf S F 0 0))) ∧ ∃ t0 t1 t2 t3 t4 t5 t6, ρ = [t0, t1, t2, t3, t4, t5, t6] ∧ outIos [false, false] ρ = some []) rfl rfl (fun pre f post ρ hp ⟨acc, u, e, t2, t6, hρ, hu, ha, hs⟩ => by
      subst hρ
      have pl : pre.length < F.length := by rw [hp]; simp
      have hd : F.drop pre.length = f :: post := by rw [hp]; simp
      have hd2 : F.drop (pre ++ [f]).length = post := by rw [hp]; simp
      rw [hd] at hs
      obtain ⟨j, e1, j1, j2, j3, j4⟩ := seek (Φ := Φ) hS hu (e := e) (s1 := .val (.tup (fd F))) (s2 := .val f.d) (s3 := .own (.lst (acD acc))) (s6 := t6)
      refine ⟨[.val (.tup (sd S)), .val (.tup (fd F)), .val f.d, .own (.lst (acD acc)), .val (.int e), .val (.int (u : Nat)), t6], rfl, ?_⟩
      by_cases c : j = S.length
      · have hh := lefts_none (S := S) (u := u) (e := e) (fun i h1 h2 => j3 i h1 (by omega))
        have hs' : sf S (f :: post) u e = [none] := by unfold sf; rw [hh]
        rw [hs'] at hs
        have ap := bin_apL (xs := acD acc) (ys := [.non]) (by rw [acD_len]; simp; omega)
        have rr : rws (sf S F 0 0) = acD acc ++ [.non] := by rw [hs]; unfold rws; rw [List.map_append]; show rws (acc.map some) ++ _ = _; rw [rws_some]; rfl
        rw [rr]
        have c' : (j : Int) = (S.length : Nat) := by omega
        refine .inr (.inr ⟨_, [.val (.tup (sd S)), .val (.tup (fd F)), .val f.d, .own (.lst (acD acc)), .val (.int e), .val (.int j), t6], ?_, rfl, _, _, _, _, _, _, _, rfl, rfl⟩)
        generalize acD acc ++ [.non] = R at *
        generalize acD acc = A2 at *
        generalize f.d = X at *
        generalize sd S = A at *
        generalize fd F = B at *
        generalize ((S.length : Nat) : Int) = n at *
        generalize (j : Int) = y at *
        subst c'
        simp [BD22_1, e1, ln, ap]
      · have n1 : j < S.length := by omega
        have hh := lefts_some j1 n1 (j4 n1) j3
        have hn : S[j]? = some S[j] := List.getElem?_eq_getElem n1
        have hs' : sf S (f :: post) u e = some (j, mx e (wtd S[j] f)) :: sf S post (j + 1) (mx e (wtd S[j] f) + f.w) := by
          conv => lhs; unfold sf
          rw [hh]; dsimp only; rw [hn]
        rw [hs'] at hs
        have at_ := sd_at hn
        have w := hw S[j] f
        have i0 := (fl_ix (s := f)).1
        have ap : muf .append (.lst (acD acc)) [.tup [.int j, .int (mx e (wtd S[j] f))]] = some (.non, .lst (acD (acc ++ [(j, mx e (wtd S[j] f))]))) := by
          rw [muf_app (by rw [acD_len]; show _ < 16777216; omega), acD_app]
        have mxe : opf .max [.lst [.int e, .int (wtd S[j] f)]] = some (.val (.int (mx e (wtd S[j] f)))) := opf_maxL
        have c' : ¬ ((j : Int) = (S.length : Nat)) := by omega
        refine .inl ⟨[.val (.tup (sd S)), .val (.tup (fd F)), .val f.d, .own (.lst (acD (acc ++ [(j, mx e (wtd S[j] f))]))), .val (.int (mx e (wtd S[j] f) + f.w)), .val (.int ((j + 1 : Nat) : Int)), .val (.int (mx e (wtd S[j] f)))], .inl ?_, acc ++ [(j, mx e (wtd S[j] f))], j + 1, _, _, _, rfl, by omega, by simp; omega, ?_⟩
        · have zz : ((j + 1 : Nat) : Int) = (j : Int) + 1 := by omega
          rw [zz]
          generalize acD (acc ++ [(j, mx e (wtd S[j] f))]) = R at *
          generalize mx e (wtd S[j] f) = y at *
          generalize wtd S[j] f = y2 at *
          generalize acD acc = A2 at *
          generalize S[j].d = Z at *
          generalize f.d = X at *
          generalize sd S = A at *
          generalize fd F = B at *
          generalize ((S.length : Nat) : Int) = n at *
          generalize (j : Int) = jj at *
          simp [BD22_1, e1, ln, c', at_, w, ap, i0, mxe, -opf_maxL]
        · rw [hd2, hs, List.map_append, List.append_assoc]; rfl) ⟨[], 0, 0, .emp, .emp, rfl, Nat.zero_le _, Nat.le_refl _, rfl⟩
  rcases z with ⟨ρ', f1, ⟨acc, u, e, t2, t6, hρ, hu, ha, hs⟩ | hf⟩ | ⟨s, ρ', f1, hs, t0, t1, t2, t3, t4, t5, t6, hρ, ho⟩
  · subst hρ
    rw [List.drop_length] at hs
    have hs : sf S F 0 0 = acc.map some := by rw [hs]; unfold sf; simp
    rw [hs, rws_some]
    have f1' : evS Φ FR22_1 _ = _ := f1
    generalize acD acc = A2 at *
    generalize sd S = A at *
    generalize fd F = B at *
    have fin : evSs Φ n22 [.val (.tup A), .val (.tup B), .emp, .emp, .emp, .emp, .emp] = .ok (.rt (.val (.tup A2)) [.val (.tup A), .val (.tup B), t2, .own (.lst A2), .val (.int e), .val (.int (u : Nat)), t6]) := by
      simp [n22, f1']
    exact runD_rt (d := D22) (ds := [.tup A, .tup B]) rfl fin rfl rfl
  · exact hf.elim
  · subst hs hρ
    have f1' : evS Φ FR22_1 _ = _ := f1
    generalize rws (sf S F 0 0) = A2 at *
    generalize sd S = A at *
    generalize fd F = B at *
    have fin : evSs Φ n22 [.val (.tup A), .val (.tup B), .emp, .emp, .emp, .emp, .emp] = .ok (.rt (.val (.tup A2)) [t0, t1, t2, t3, t4, t5, t6]) := by
      simp [n22, f1']
    exact runD_rt (d := D22) (ds := [.tup A, .tup B]) rfl fin ho rfl
end W
namespace W
open PySem DL L2
variable {k : Nat} {Φ : Nat → Fn}
/-! ## shifts -/
theorem sf_mem {S : List Stp} : ∀ (F : List Fld) (u : Nat) (e : Int) (n : Nat) (p : Int), some (n, p) ∈ sf S F u e → n < S.length
  | [], u, e, n, p, h => by unfold sf at h; cases h
  | f :: fs, u, e, n, p, h => by
    unfold sf at h
    cases hh : (lefts S u e).head? with
    | none => rw [hh] at h; simp at h
    | some m =>
      obtain ⟨m0, m1, m2⟩ := lefts_mem hh
      rw [hh] at h
      dsimp only at h
      rw [List.getElem?_eq_getElem m1] at h
      rcases List.mem_cons.mp h with h | h
      · simp at h; omega
      · exact sf_mem fs _ _ n p h
theorem wtd_b {S : List Stp} (hS : Sps S) {s : Stp} (hs : s ∈ S) {f : Fld} (a0 : 0 ≤ f.a) (aw : f.a ≤ f.w) (w1 : f.w ≤ 100000) : -100000 ≤ wtd s f ∧ wtd s f ≤ 100000 := by
  have := hS.lo s hs
  have := hS.hi s hs
  unfold wtd
  have d2 : f.w.fdiv 2 = f.w / 2 := by rw [Int.fdiv_eq_ediv_of_nonneg _ (by decide)]
  split
  · omega
  · omega
  · rw [d2]; omega
  · omega
theorem sf_b {S : List Stp} (hS : Sps S) : ∀ (F : List Fld) (u : Nat) (e : Int), (∀ f ∈ F, 0 ≤ f.a ∧ f.a ≤ f.w ∧ f.w ≤ 100000) → 0 ≤ e → ∀ (n : Nat) (p : Int), some (n, p) ∈ sf S F u e → 0 ≤ p ∧ p ≤ e + 200000 * F.length
  | [], u, e, _, _, n, p, h => by unfold sf at h; cases h
  | f :: fs, u, e, hF, he, n, p, h => by
    unfold sf at h
    cases hh : (lefts S u e).head? with
    | none => rw [hh] at h; simp at h
    | some m =>
      obtain ⟨m0, m1, m2⟩ := lefts_mem hh
      rw [hh] at h
      dsimp only at h
      rw [List.getElem?_eq_getElem m1] at h
      obtain ⟨f0, f1, f2⟩ := hF f List.mem_cons_self
      have wb := wtd_b hS (List.getElem_mem m1) f0 f1 f2
      have mb : e ≤ mx e (wtd S[m] f) ∧ mx e (wtd S[m] f) ≤ e + 100000 := by unfold mx; split <;> omega
      rw [List.length_cons]
      rcases List.mem_cons.mp h with h | h
      · simp at h
        obtain ⟨_, rfl⟩ := h
        omega
      · have := sf_b hS fs _ _ (fun g hg => hF g (List.mem_cons_of_mem _ hg)) (by omega) n p h
        omega
theorem Fds.all {F : List Fld} (h : Fds F) : ∀ f ∈ F, 0 ≤ f.a ∧ f.a ≤ f.w ∧ f.w ≤ 100000 := fun f hf => ⟨h.a0 f hf, h.aw f hf, h.w1 f hf⟩
theorem sf_len {S : List Stp} : ∀ (F : List Fld) (u : Nat) (e : Int), (sf S F u e).length ≤ F.length
  | [], u, e => by unfold sf; simp
  | f :: fs, u, e => by
    unfold sf
    split
    · simp
    · split
      · simp
      · rw [List.length_cons, List.length_cons]
        have := sf_len fs (S := S) (by assumption + 1) (mx e (wtd (by assumption) f) + f.w)
        omega
theorem nice_row {o : Option (Nat × Int)} (h : ∀ n p, o = some (n, p) → n ≤ 100 ∧ -100000000 ≤ p ∧ p ≤ 100000000) : NiceD (rowD o) 1 52 := by
  cases o with
  | none => exact niceD_non.mono (by omega) (by omega)
  | some q =>
    obtain ⟨n, p⟩ := q
    obtain ⟨a, b, c⟩ := h n p rfl
    refine (niceD_tup (h := 0) (w := 21) (n := 2) (fun d hd => ?_) (by simp)).mono (by omega) (by omega)
    simp at hd
    rcases hd with rfl | rfl
    · exact niceD_int (by omega) (by omega)
    · exact niceD_int (by omega) (by omega)
theorem nice_rws {S : List Stp} (hS : Sps S) {F : List Fld} (hF : Fds F) : NiceD (.tup (rws (sf S F 0 0))) 2 1200 := by
  have l1 := hS.l1
  have fl := hF.l1
  have sl := sf_len (S := S) F 0 0
  refine (niceD_tup (h := 1) (w := 52) (n := 20) (fun d hd => ?_) (by unfold rws; rw [List.length_map]; omega)).mono (by omega) (by omega)
  unfold rws at hd
  obtain ⟨o, ho, rfl⟩ := List.mem_map.mp hd
  refine nice_row fun n p e => ?_
  subst e
  have a := sf_mem F 0 0 n p ho
  have b := sf_b hS F 0 0 hF.all (by omega) n p ho
  omega
theorem eqv_row (o : Option (Nat × Int)) : (rowD o).eqv .non = o.isNone := by
  cases o with
  | none => rfl
  | some p => rfl
def anyN (L : List (Option (Nat × Int))) : Bool := L.any Option.isNone
theorem notin_rws {L : List (Option (Nat × Int))} (h : reprOk (.tup (rws L)) = true) : cmpf .NotIn .non (.tup (rws L)) = some (!anyN L) := by
  have g : cmpf .NotIn .non (.tup (rws L)) = if (D.non.okd && D.okd (.tup (rws L))) = true then some (!(rws L).any fun x => x.eqv .non) else none := rfl
  rw [g, okd_non, reprOk_of h]
  show some (!(rws L).any fun x => x.eqv .non) = _
  congr 2
  unfold rws anyN
  rw [List.any_map]
  congr 1
  funext o
  exact eqv_row o
def sh1 (S : List Stp) (q : Option (Nat × Int) × Fld) : Int := match q.1 with
  | some (n, p) => match S[n]? with
    | some s => p - wtd s q.2
    | none => 0
  | none => 0
def shl (S : List Stp) (L : List (Option (Nat × Int))) (F : List Fld) : List Int := ((L.zip F).filter fun q => q.1.isSome).map (sh1 S)
theorem sh_ev {j : Nat} {S : List Stp} {L : List (Option (Nat × Int))} {F : List Fld} (hw : wtI Φ j) (hL : ∀ n p, some (n, p) ∈ L → n < S.length) {a b : Nat}
    {q : Option (Nat × Int) × Fld} (hq : q ∈ L.zip F) (hs : q.1.isSome = true) :
    ∃ n p s, q.1 = some (n, p) ∧ rowD q.1 = .tup [.int n, .int p] ∧ atI (sd S) (n : Int) = some s.d ∧ Φ j [s.d, q.2.d] = .ok (.val (.int (wtd s q.2)), []) ∧ sh1 S q = p - wtd s q.2 := by
  obtain ⟨o, f⟩ := q
  cases o with
  | none => cases hs
  | some np =>
    obtain ⟨n, p⟩ := np
    have hm := (List.of_mem_zip hq).1
    have hn := hL n p hm
    have ha : S[n]? = some S[n] := List.getElem?_eq_getElem hn
    exact ⟨n, p, S[n], rfl, rfl, sd_at ha, hw _ _, by unfold sh1; dsimp only; rw [ha]⟩
end W
/-! DX: any data (ints, texts, None, bools, tuples of such). -/
namespace DL
open PySem L2
/-- any data: ints up to B, tuples of at most N -/
inductive Ab (B : Int) (N : Nat) : D → Prop
  | non : Ab B N .non
  | bl (b : Bool) : Ab B N (.bl b)
  | int (i : Int) : -B ≤ i → i ≤ B → Ab B N (.int i)
  | str (s : Str) : PyData.strOk s = true → s.length ≤ 1000 → Ab B N (.str s)
  | tup (xs : List D) : xs.length ≤ N → (∀ x ∈ xs, Ab B N x) → Ab B N (.tup xs)
def D.isT : D → Bool
  | .tup _ => true
  | _ => false
def D.isN : D → Bool
  | .int _ => true
  | _ => false
def D.isB : D → Bool
  | .bl _ => true
  | _ => false
def D.isS : D → Bool
  | .str _ => true
  | _ => false
def D.inR (lo hi : Int) : D → Bool
  | .int i => decide (lo ≤ i) && decide (i ≤ hi)
  | _ => false
def D.its : D → List D
  | .tup xs => xs
  | _ => []
theorem Ab.mono {B B' : Int} {N N' : Nat} {d : D} (h : Ab B N d) (hB : B ≤ B') (hN : N ≤ N') : Ab B' N' d := by
  induction h with
  | non => exact .non
  | bl b => exact .bl b
  | int i h1 h2 => exact .int i (by omega) (by omega)
  | str s h1 h2 => exact .str s h1 h2
  | tup xs h1 _ ih => exact .tup xs (by omega) ih
section
variable {B : Int} {N : Nat} {d : D}
theorem Ab.isi_tup (h : Ab B N d) : opf (.isi "tuple") [d] = some (.val (.bl d.isT)) := by cases h <;> rfl
theorem Ab.isi_int (h : Ab B N d) : opf (.isi "int") [d] = some (.val (.bl (d.isN || d.isB))) := by cases h <;> rfl
theorem Ab.isi_bool (h : Ab B N d) : opf (.isi "bool") [d] = some (.val (.bl d.isB)) := by cases h <;> rfl
theorem Ab.isi_str (h : Ab B N d) : opf (.isi "str") [d] = some (.val (.bl d.isS)) := by cases h <;> rfl
theorem Ab.isi_list (h : Ab B N d) : opf (.isi "list") [d] = some (.val (.bl false)) := by cases h <;> rfl
theorem Ab.item {xs : List D} (h : Ab B N (.tup xs)) {x : D} (hx : x ∈ xs) : Ab B N x := by
  cases h with
  | tup _ _ k => exact k x hx
theorem Ab.len {xs : List D} (h : Ab B N (.tup xs)) : xs.length ≤ N := by
  cases h with
  | tup _ k _ => exact k
theorem isT_eq (h : d.isT = true) : ∃ xs, d = .tup xs := by
  cases d <;> first | exact ⟨_, rfl⟩ | cases h
theorem isN_eq (h : d.isN = true) : ∃ i, d = .int i := by
  cases d <;> first | exact ⟨_, rfl⟩ | cases h
theorem isS_eq (h : d.isS = true) : ∃ i, d = .str i := by
  cases d <;> first | exact ⟨_, rfl⟩ | cases h
theorem inR_eq {lo hi : Int} (h : d.inR lo hi = true) : ∃ i, d = .int i ∧ lo ≤ i ∧ i ≤ hi := by
  cases d <;> first | (cases h; done) | skip
  rename_i i
  have h' : (decide (lo ≤ i) && decide (i ≤ hi)) = true := h
  rw [Bool.and_eq_true, decide_eq_true_eq, decide_eq_true_eq] at h'
  exact ⟨i, rfl, h'⟩
theorem inR_isN {lo hi : Int} (h : d.isN = false) : d.inR lo hi = false := by
  cases d <;> first | rfl | cases h
/-! ## loops that may raise -/
variable {Φ : Nat → Fn}
theorem forR_cons {st : D → Sts → R Sts Out} {x : D} {xs : List D} {ρ : Sts} : forR st (x :: xs) ρ = match st x ρ with
    | .ok (.nx ρ1) => forR st xs ρ1
    | .ok (.ct ρ1) => forR st xs ρ1
    | .ok (.bk ρ1) => .ok (.nx ρ1)
    | .ok (.rt s ρ1) => .ok (.rt s ρ1)
    | .exc c x e => .exc c x e
    | .bad => .bad := rfl
theorem forR_nx {st : D → Sts → R Sts Out} {x : D} {xs : List D} {ρ ρ1 : Sts} (h : st x ρ = .ok (.nx ρ1)) : forR st (x :: xs) ρ = forR st xs ρ1 := by rw [forR_cons, h]
theorem forR_rt {st : D → Sts → R Sts Out} {x : D} {xs : List D} {ρ ρ1 : Sts} {s : Slot} (h : st x ρ = .ok (.rt s ρ1)) : forR st (x :: xs) ρ = .ok (.rt s ρ1) := by rw [forR_cons, h]
theorem forR_exc {st : D → Sts → R Sts Out} {x : D} {xs : List D} {ρ ρ1 : Sts} {c : Str} {z : D} (h : st x ρ = .exc c z ρ1) : forR st (x :: xs) ρ = .exc c z ρ1 := by rw [forR_cons, h]
theorem runD_exc {Φ : Nat → Fn} {d : Def} {ds : List D} {c : Str} {x : D} {ρ : Sts} (hl : ds.length = d.m.length) (h : evSs Φ d.body (entry d.m ds ++ List.replicate (d.n - d.m.length) .emp) = .exc c x ρ) {cs : List D} (ho : outIos d.m ρ = some cs) : runD Φ d ds = .exc c x cs := by
  rw [runD_of hl, h]
  show (R.ofO (outIos d.m ρ)).bind (fun cs => R.exc c x cs) = _
  rw [ho]
  rfl
/-- a loop that checks: it goes on, or ends -/
theorem forR_ck {α : Type} {step : D → Sts → R Sts Out} (I : α → Sts → Prop) (stp : α → D → Option α) (Ed : R Sts Out → Prop) (hE : ∀ r, Ed r → (∃ s ρ, r = .ok (.rt s ρ)) ∨ ∃ c x ρ, r = .exc c x ρ) : ∀ (xs : List D) (a : α) (ρ : Sts),
    (∀ x ∈ xs, ∀ a ρ, I a ρ → match stp a x with
      | some a' => ∃ ρ', step x ρ = .ok (.nx ρ') ∧ I a' ρ'
      | none => Ed (step x ρ)) → I a ρ → match xs.foldlM stp a with
      | some a' => ∃ ρ', forR step xs ρ = .ok (.nx ρ') ∧ I a' ρ'
      | none => Ed (forR step xs ρ)
  | [], a, ρ, _, hI => ⟨ρ, rfl, hI⟩
  | x :: xs, a, ρ, hs, hI => by
    have h1 := hs x List.mem_cons_self a ρ hI
    rw [List.foldlM_cons]
    cases e : stp a x with
    | none =>
      rw [e] at h1
      show Ed (forR step (x :: xs) ρ)
      rcases hE _ h1 with ⟨s, ρ1, q⟩ | ⟨c, z, ρ1, q⟩
      · rw [forR_rt q, ← q]; exact h1
      · rw [forR_exc q, ← q]; exact h1
    | some a' =>
      rw [e] at h1
      obtain ⟨ρ', q1, q2⟩ := h1
      have ih := forR_ck I stp Ed hE xs a' ρ' (fun y hy => hs y (List.mem_cons_of_mem _ hy)) q2
      rw [forR_nx q1]
      exact ih
theorem for_ck {α : Type} {t : T} {k : Sk} {src : List E} {b : List S} {ρ ρ1 : Sts} {ds xs : List D} (I : α → Sts → Prop) (stp : α → D → Option α) (Ed : R Sts Out → Prop) (a : α) (hs : evVs Φ src ρ = .ok (ds, ρ1)) (hi : srcf k ds = some xs) (hE : ∀ r, Ed r → (∃ s ρ, r = .ok (.rt s ρ)) ∨ ∃ c x ρ, r = .exc c x ρ)
    (st : ∀ x ∈ xs, ∀ a ρ, I a ρ → ∃ ρ2, assignT t (.val x) ρ = some ρ2 ∧ match stp a x with
      | some a' => ∃ ρ', evSs Φ b ρ2 = .ok (.nx ρ') ∧ I a' ρ'
      | none => Ed (evSs Φ b ρ2)) (h0 : I a ρ1) : match xs.foldlM stp a with
      | some a' => ∃ ρ', evS Φ (.for t k src b) ρ = .ok (.nx ρ') ∧ I a' ρ'
      | none => Ed (evS Φ (.for t k src b) ρ) := by
  have z := forR_ck (step := fun x ρ => (R.ofO (assignT t (.val x) ρ)).bind fun ρ1 => evSs Φ b ρ1) I stp Ed hE xs a ρ1 (fun x hx a ρ hI => by
    obtain ⟨ρ2, q1, q2⟩ := st x hx a ρ hI
    rw [q1, R.ofO_some, R.bind_ok]
    exact q2) h0
  have g : evS Φ (.for t k src b) ρ = forR (fun x ρ => (R.ofO (assignT t (.val x) ρ)).bind fun ρ1 => evSs Φ b ρ1) xs ρ1 := by
    show ((evVs Φ src ρ).bind fun p => match srcf k p.1 with
      | some items => forR (fun x ρ => (R.ofO (assignT t (.val x) ρ)).bind fun ρ1 => evSs Φ b ρ1) items p.2
      | none => .bad) = _
    rw [hs]
    show (match srcf k ds with
      | some items => forR (fun x ρ => (R.ofO (assignT t (.val x) ρ)).bind fun ρ1 => evSs Φ b ρ1) items ρ1
      | none => .bad) = _
    rw [hi]
  rw [g]
  exact z
theorem for_eq {t : T} {k : Sk} {src : List E} {b : List S} {ρ ρ1 : Sts} {ds xs : List D} (hs : evVs Φ src ρ = .ok (ds, ρ1)) (hi : srcf k ds = some xs) :
    evS Φ (.for t k src b) ρ = forR (fun x ρ => (R.ofO (assignT t (.val x) ρ)).bind fun ρ1 => evSs Φ b ρ1) xs ρ1 := by
  show ((evVs Φ src ρ).bind fun p => match srcf k p.1 with
    | some items => forR (fun x ρ => (R.ofO (assignT t (.val x) ρ)).bind fun ρ1 => evSs Φ b ρ1) items p.2
    | none => .bad) = _
  rw [hs]
  show (match srcf k ds with
    | some items => forR (fun x ρ => (R.ofO (assignT t (.val x) ρ)).bind fun ρ1 => evSs Φ b ρ1) items ρ1
    | none => .bad) = _
  rw [hi]
theorem stepR {t : T} {b : List S} {x : D} {ρ ρ2 : Sts} {r : R Sts Out} (h : assignT t (.val x) ρ = some ρ2) (e : evSs Φ b ρ2 = r) : (R.ofO (assignT t (.val x) ρ)).bind (fun ρ1 => evSs Φ b ρ1) = r := by
  rw [h, R.ofO_some, R.bind_ok]
  exact e
end
end DL
namespace W
open PySem DL L2
variable {k : Nat} {Φ : Nat → Fn} {B : Int} {N : Nat}
/-! ## any data for stops -/
abbrev aI (Φ : Nat → Fn) : Prop := ∀ (B : Int) (N : Nat) (d : D), Ab B N d → Φ 0 [d] = .ok (.val (.bl d.isN), [])
theorem abody0 {d : D} (h : Ab B N d) : runD Φ D0 [d] = .ok (.val (.bl d.isN), []) := by
  rw [runD_of rfl]
  cases h <;> simp [D0, n0, (Ab.non (B := 0) (N := 0)).isi_int, D.isN, isiD, kindD, opf] <;> rfl
theorem abody17 {d : D} (h : Ab B N d) {lo hi : Int} : runD Φ D17 [d, .int lo, .int hi] = .ok (.val (.bl (d.inR lo hi)), []) := by
  have t1 := h.isi_int
  have t2 := h.isi_bool
  cases hn : d.isN with
  | true =>
    obtain ⟨i, rfl⟩ := isN_eq hn
    refine runD_rt (d := D17) (ds := [.int i, .int lo, .int hi]) (ρ := [.val (.int i), .val (.int lo), .val (.int hi)]) (t := .val (.bl (decide (lo ≤ i) && decide (i ≤ hi)))) rfl ?_ rfl rfl
    by_cases h1 : lo ≤ i <;> by_cases h2 : i ≤ hi <;> simp [D17, n17, t1, t2, D.isN, D.isB, h1, h2]
  | false =>
    rw [inR_isN hn]
    rw [hn] at t1
    refine runD_rt (d := D17) (ds := [d, .int lo, .int hi]) (ρ := [.val d, .val (.int lo), .val (.int hi)]) (t := .val (.bl false)) rfl ?_ rfl rfl
    cases hb : d.isB <;> rw [hb] at t1 t2 <;> simp [D17, n17, t1, t2]
end W
namespace W
open PySem DL L2
variable {k : Nat} {Φ : Nat → Fn} {B : Int} {N : Nat}
/-! ## any data read as stops -/
def wyOf (s : Str) : Option Wy := if s = "left" then some .lf else if s = "right" then some .rt else if s = "middle" then some .md else if s = "sign" then some .sg else none
theorem wyOf_eq {s : Str} {w : Wy} (h : wyOf s = some w) : s = w.s := by
  unfold wyOf at h
  split at h
  · cases h; assumption
  · split at h
    · cases h; assumption
    · split at h
      · cases h; assumption
      · split at h
        · cases h; assumption
        · cases h
theorem ways_any {s : Str} : (([.str "left", .str "right", .str "middle", .str "sign"] : List D).any fun x => x.eqv (.str s)) = (wyOf s).isSome := by
  simp only [List.any_cons, List.any_nil, eqv_str, Bool.or_false]
  unfold wyOf
  by_cases h1 : s = "left"
  · subst h1; rfl
  by_cases h2 : s = "right"
  · subst h2; rfl
  by_cases h3 : s = "middle"
  · subst h3; rfl
  by_cases h4 : s = "sign"
  · subst h4; rfl
  have n1 : (("left" : Str) == s) = false := beq_eq_false_iff_ne.mpr fun z => h1 z.symm
  have n2 : (("right" : Str) == s) = false := beq_eq_false_iff_ne.mpr fun z => h2 z.symm
  have n3 : (("middle" : Str) == s) = false := beq_eq_false_iff_ne.mpr fun z => h3 z.symm
  have n4 : (("sign" : Str) == s) = false := beq_eq_false_iff_ne.mpr fun z => h4 z.symm
  rw [n1, n2, n3, n4, if_neg h1, if_neg h2, if_neg h3, if_neg h4]
  rfl
theorem ways_not {s : Str} (h : PyData.strOk s = true) : cmpf .NotIn (.str s) (.tup [.str "left", .str "right", .str "middle", .str "sign"]) = some (wyOf s).isNone := by
  have e : cmpf .NotIn (.str s) (.tup [.str "left", .str "right", .str "middle", .str "sign"]) = if (D.str s).okd && D.okd (.tup [.str "left", .str "right", .str "middle", .str "sign"]) then some (!([.str "left", .str "right", .str "middle", .str "sign"] : List D).any fun x => x.eqv (.str s)) else none := rfl
  rw [e, okd_str, h, show D.okd (.tup [.str "left", .str "right", .str "middle", .str "sign"]) = true by decide +kernel, ways_any]
  cases wyOf s <;> rfl
theorem ways_notL {s : Str} (h : PyData.strOk s = true) : cmpf .NotIn (.str s) (.lst [.str "left", .str "right", .str "middle", .str "sign"]) = some (wyOf s).isNone := by
  have e : cmpf .NotIn (.str s) (.lst [.str "left", .str "right", .str "middle", .str "sign"]) = if (D.str s).okd && D.okd (.lst [.str "left", .str "right", .str "middle", .str "sign"]) then some (!([.str "left", .str "right", .str "middle", .str "sign"] : List D).any fun x => x.eqv (.str s)) else none := rfl
  rw [e, okd_str, h, show D.okd (.lst [.str "left", .str "right", .str "middle", .str "sign"]) = true by decide +kernel, ways_any]
  cases wyOf s <;> rfl
def pS1 (last : Int) : D → Option Stp
  | .tup [.int p, .str s] => if last < p ∧ p ≤ 100000 then (wyOf s).map fun w => ⟨p, w⟩ else none
  | _ => none
def pSs : Int → List D → Option (List Stp)
  | _, [] => some []
  | last, d :: r => (pS1 last d).bind fun s => (pSs s.p r).map (s :: ·)
def pS : D → Option (List Stp)
  | .tup xs => if 1 ≤ xs.length ∧ xs.length ≤ 20 then pSs (-1) xs else none
  | _ => none
theorem pS1_eq {last : Int} {d : D} {s : Stp} (h : pS1 last d = some s) : d = s.d ∧ last < s.p ∧ s.p ≤ 100000 := by
  unfold pS1 at h
  split at h
  · split at h
    · rename_i hc
      obtain ⟨w, e, rfl⟩ := Option.map_eq_some_iff.mp h
      exact ⟨by rw [wyOf_eq e]; rfl, hc⟩
    · cases h
  · cases h
theorem pSs_eq : ∀ {xs : List D} {last : Int} {S : List Stp}, pSs last xs = some S → xs = sd S ∧ (S.Pairwise fun a b => a.p < b.p) ∧ ∀ s ∈ S, last < s.p ∧ s.p ≤ 100000
  | [], last, S, h => by cases h; exact ⟨rfl, .nil, fun s hs => by cases hs⟩
  | d :: r, last, S, h => by
    obtain ⟨s, h1, h2⟩ := Option.bind_eq_some_iff.mp (show (pS1 last d).bind (fun s => (pSs s.p r).map (s :: ·)) = some S from h)
    obtain ⟨S', h3, rfl⟩ := Option.map_eq_some_iff.mp h2
    obtain ⟨e1, e2, e3⟩ := pS1_eq h1
    obtain ⟨i1, i2, i3⟩ := pSs_eq h3
    refine ⟨by rw [e1, i1]; rfl, List.pairwise_cons.mpr ⟨fun b hb => (i3 b hb).1, i2⟩, fun x hx => ?_⟩
    rcases List.mem_cons.mp hx with rfl | hx
    · exact ⟨e2, e3⟩
    · have := i3 x hx; omega
theorem pS_eq {d : D} {S : List Stp} (h : pS d = some S) : d = .tup (sd S) ∧ Sps S := by
  unfold pS at h
  split at h
  · rename_i xs
    split at h
    · rename_i hc
      obtain ⟨h1, h2, h3⟩ := pSs_eq h
      subst h1
      rw [sd_len] at hc
      exact ⟨rfl, hc.1, hc.2, h2, fun s hs => by have := h3 s hs; omega, fun s hs => (h3 s hs).2⟩
    · cases h
  · cases h
/-- one stop -/
theorem ck_stop (hi : aI Φ) {d : D} (h : Ab B N d) {A : D} {last : Int} : evSs Φ BD1_0 [.val A, .val (.int last), .val d] = match pS1 last d with
    | some s => .ok (.nx [.val A, .val (.int s.p), .val d])
    | none => .exc "ArgumentError" (.str "stops") [.val A, .val (.int last), .val d] := by
  have t1 := h.isi_tup
  have kx : okX (.str "stops") = true := by decide
  cases ht : d.isT with
  | false =>
    rw [ht] at t1
    have e : pS1 last d = none := by cases d <;> first | rfl | cases ht
    rw [e]
    simp [BD1_0, kx, t1]
  | true =>
    obtain ⟨xs, rfl⟩ := isT_eq ht
    rw [ht] at t1
    by_cases hl : xs.length = 2
    · obtain ⟨a, b, rfl⟩ : ∃ a b, xs = [a, b] := by
        match xs, hl with
        | [a, b], _ => exact ⟨a, b, rfl⟩
      have ha := h.item (x := a) (by simp)
      have hb := h.item (x := b) (by simp)
      have ia := hi B N a ha
      have sb := hb.isi_str
      cases ea : a.isN with
      | false =>
        rw [ea] at ia
        have e : pS1 last (.tup [a, b]) = none := by cases a <;> first | rfl | cases ea
        rw [e]
        simp [BD1_0, kx, t1, ia]
      | true =>
        obtain ⟨p, rfl⟩ := isN_eq ea
        rw [ea] at ia
        cases eb : b.isS with
        | false =>
          rw [eb] at sb
          have e : pS1 last (.tup [.int p, b]) = none := by cases b <;> first | rfl | cases eb
          rw [e]
          simp [BD1_0, kx, t1, ia, sb]
        | true =>
          obtain ⟨s, rfl⟩ := isS_eq eb
          rw [eb] at sb
          have hs : PyData.strOk s = true := by cases hb; assumption
          have nw := ways_not hs
          by_cases c1 : last < p
          · by_cases c2 : p ≤ 100000
            · cases hw : wyOf s with
              | none =>
                have e : pS1 last (.tup [.int p, .str s]) = none := by unfold pS1; dsimp only; rw [if_pos ⟨c1, c2⟩, hw]; rfl
                rw [hw] at nw
                rw [e]
                simp [BD1_0, kx, t1, ia, sb, c1, c2, nw]
              | some w =>
                have e : pS1 last (.tup [.int p, .str s]) = some ⟨p, w⟩ := by unfold pS1; dsimp only; rw [if_pos ⟨c1, c2⟩, hw]; rfl
                rw [hw] at nw
                rw [e]
                simp [BD1_0, kx, t1, ia, sb, c1, c2, nw]
            · have e : pS1 last (.tup [.int p, .str s]) = none := by unfold pS1; dsimp only; rw [if_neg (by omega)]
              rw [e]
              simp [BD1_0, kx, t1, ia, sb, c1, c2]
          · have e : pS1 last (.tup [.int p, .str s]) = none := by unfold pS1; dsimp only; rw [if_neg (by omega)]
            rw [e]
            simp [BD1_0, kx, t1, ia, sb, c1]
    · have e : pS1 last (.tup xs) = none := by
        unfold pS1
        split
        · rename_i heq; cases heq; exact absurd rfl hl
        · rfl
      have hl' : ¬ ((xs.length : Int) = 2) := by omega
      rw [e]
      simp [BD1_0, kx, t1, hl']
end W
namespace W
open PySem DL L2
variable {k : Nat} {Φ : Nat → Fn} {B : Int} {N : Nat}
theorem pSs_fold : ∀ (xs : List D) (last : Int), (xs.foldlM (fun l d => (pS1 l d).map Stp.p) last).isSome = (pSs last xs).isSome
  | [], _ => rfl
  | d :: r, last => by
    rw [List.foldlM_cons]
    show ((pS1 last d).map Stp.p >>= fun l => r.foldlM (fun l d => (pS1 l d).map Stp.p) l).isSome = ((pS1 last d).bind fun s => (pSs s.p r).map (s :: ·)).isSome
    cases e : pS1 last d with
    | none => rfl
    | some s =>
      have ih := pSs_fold r s.p
      show (r.foldlM (fun l d => (pS1 l d).map Stp.p) s.p).isSome = ((pSs s.p r).map (s :: ·)).isSome
      rw [ih, Option.isSome_map]
theorem pS_tup {xs : List D} : (pS (.tup xs)).isSome = (decide (1 ≤ xs.length) && decide (xs.length ≤ 20) && (pSs (-1) xs).isSome) := by
  show (if 1 ≤ xs.length ∧ xs.length ≤ 20 then pSs (-1) xs else none).isSome = _
  by_cases h1 : 1 ≤ xs.length <;> by_cases h2 : xs.length ≤ 20 <;> simp [h1, h2]
theorem abody1 (hi : aI Φ) {d : D} (h : Ab B N d) : runD Φ D1 [d] = if (pS d).isSome then .ok (.val .non, []) else .exc "ArgumentError" (.str "stops") [] := by
  have t1 := h.isi_tup
  have kx : okX (.str "stops") = true := by decide
  cases ht : d.isT with
  | false =>
    rw [ht] at t1
    have e : pS d = none := by cases d <;> first | rfl | cases ht
    rw [e, if_neg (by simp)]
    refine runD_exc (d := D1) (ds := [d]) (ρ := [.val d, .emp, .emp]) rfl ?_ rfl
    simp [D1, n1, t1, kx]
  | true =>
    obtain ⟨xs, rfl⟩ := isT_eq ht
    rw [ht] at t1
    rw [pS_tup]
    have ln : opf .len [.tup xs] = some (.val (.int (xs.length : Nat))) := rfl
    by_cases h1 : 1 ≤ xs.length
    · by_cases h2 : xs.length ≤ 20
      · have a1 : (1 : Int) ≤ (xs.length : Nat) := by omega
        have a2 : ((xs.length : Nat) : Int) ≤ 20 := by omega
        have fr := for_ck (Φ := Φ) (t := .name 2 false) (k := .it) (src := [.var 0]) (b := BD1_0) (ρ := [.val (.tup xs), .val (.int (-1)), .emp]) (ρ1 := [.val (.tup xs), .val (.int (-1)), .emp]) (ds := [.tup xs]) (xs := xs)
          (fun (a : Int) ρ => ∃ t2, ρ = [.val (.tup xs), .val (.int a), t2]) (fun l d => (pS1 l d).map Stp.p) (fun r => ∃ a t2, r = .exc "ArgumentError" (.str "stops") [.val (.tup xs), a, t2]) (-1) rfl rfl (fun r ⟨a, t2, e⟩ => .inr ⟨_, _, _, e⟩) (fun x hx a ρ ⟨t2, hρ⟩ => by
            subst hρ
            refine ⟨[.val (.tup xs), .val (.int a), .val x], rfl, ?_⟩
            have z := ck_stop (Φ := Φ) hi (h.item hx) (A := .tup xs) (last := a)
            cases e : pS1 a x with
            | none => rw [e] at z; exact ⟨_, _, z⟩
            | some s => rw [e] at z; exact ⟨_, z, _, rfl⟩) ⟨.emp, rfl⟩
        have ff := pSs_fold xs (-1)
        rw [← ff]
        cases e : xs.foldlM (fun l d => (pS1 l d).map Stp.p) (-1) with
        | none =>
          rw [e] at fr
          obtain ⟨a, t2, f1⟩ := fr
          have f1' : evS Φ FR1_0 _ = _ := f1
          simp only [Option.isSome_none, Bool.and_false, Bool.false_eq_true, if_false]
          refine runD_exc (d := D1) (ds := [.tup xs]) (ρ := [.val (.tup xs), a, t2]) rfl ?_ rfl
          generalize D.tup xs = A at *
          simp [D1, n1, t1, ln, a1, a2, f1']
        | some l =>
          rw [e] at fr
          obtain ⟨ρ', f1, t2, f2⟩ := fr
          subst f2
          have f1' : evS Φ FR1_0 _ = _ := f1
          simp only [h1, h2, decide_true, Option.isSome_some, Bool.and_true, if_true]
          refine runD_nx (d := D1) (ds := [.tup xs]) (ρ := [.val (.tup xs), .val (.int l), t2]) rfl ?_ rfl
          generalize D.tup xs = A at *
          simp [D1, n1, t1, ln, a1, a2, f1']
      · have a1 : (1 : Int) ≤ (xs.length : Nat) := by omega
        have a2 : ¬ ((xs.length : Nat) : Int) ≤ 20 := by omega
        simp only [h2, decide_false, Bool.and_false, Bool.false_and, Bool.false_eq_true, if_false]
        refine runD_exc (d := D1) (ds := [.tup xs]) (ρ := [.val (.tup xs), .emp, .emp]) rfl ?_ rfl
        generalize D.tup xs = A at *
        simp [D1, n1, t1, ln, a1, a2, kx]
    · have a1 : ¬ (1 : Int) ≤ (xs.length : Nat) := by omega
      simp only [h1, decide_false, Bool.false_and, Bool.false_eq_true, if_false]
      refine runD_exc (d := D1) (ds := [.tup xs]) (ρ := [.val (.tup xs), .emp, .emp]) rfl ?_ rfl
      generalize D.tup xs = A at *
      simp [D1, n1, t1, ln, a1, kx]
abbrev aW (Φ : Nat → Fn) : Prop := ∀ (B : Int) (N : Nat) (d : D) (lo hi : Int), Ab B N d → Φ 17 [d, .int lo, .int hi] = .ok (.val (.bl (d.inR lo hi)), [])
/-- one stop, by the law -/
theorem lk_stop (hw : aW Φ) {d : D} (h : Ab B N d) {A : D} {last : Int} : match pS1 last d with
    | some s => evSs Φ BD25_0 [.val A, .val (.int last), .val d] = .ok (.nx [.val A, .val (.int s.p), .val d])
    | none => evSs Φ BD25_0 [.val A, .val (.int last), .val d] = .ok (.rt (.val (.bl false)) [.val A, .val (.int last), .val d]) := by
  have t1 := h.isi_tup
  cases ht : d.isT with
  | false =>
    rw [ht] at t1
    have e : pS1 last d = none := by cases d <;> first | rfl | cases ht
    rw [e]
    simp [BD25_0, t1]
  | true =>
    obtain ⟨xs, rfl⟩ := isT_eq ht
    rw [ht] at t1
    by_cases hl : xs.length = 2
    · obtain ⟨a, b, rfl⟩ : ∃ a b, xs = [a, b] := by
        match xs, hl with
        | [a, b], _ => exact ⟨a, b, rfl⟩
      have ha := h.item (x := a) (by simp)
      have hb := h.item (x := b) (by simp)
      have ia := hw B N a (last + 1) 100000 ha
      have sb := hb.isi_str
      cases ea : a.inR (last + 1) 100000 with
      | false =>
        rw [ea] at ia
        have e : pS1 last (.tup [a, b]) = none := by
          unfold pS1
          split
          · rename_i p s heq
            cases heq
            have ea' : (decide (last + 1 ≤ p) && decide (p ≤ 100000)) = false := ea
            rw [if_neg]
            intro hc
            rw [decide_eq_true (by omega), decide_eq_true hc.2] at ea'
            cases ea'
          · rfl
        rw [e]
        simp [BD25_0, t1, ia]
      | true =>
        obtain ⟨p, rfl, c1, c2⟩ := inR_eq ea
        rw [ea] at ia
        cases eb : b.isS with
        | false =>
          rw [eb] at sb
          have e : pS1 last (.tup [.int p, b]) = none := by cases b <;> first | rfl | cases eb
          rw [e]
          simp [BD25_0, t1, ia, sb]
        | true =>
          obtain ⟨s, rfl⟩ := isS_eq eb
          rw [eb] at sb
          have hs : PyData.strOk s = true := by cases hb; assumption
          have nw := ways_notL hs
          cases hwy : wyOf s with
          | none =>
            have e : pS1 last (.tup [.int p, .str s]) = none := by unfold pS1; dsimp only; rw [if_pos ⟨by omega, c2⟩, hwy]; rfl
            rw [hwy] at nw
            rw [e]
            simp [BD25_0, t1, ia, sb, nw]
          | some w =>
            have e : pS1 last (.tup [.int p, .str s]) = some ⟨p, w⟩ := by unfold pS1; dsimp only; rw [if_pos ⟨by omega, c2⟩, hwy]; rfl
            rw [hwy] at nw
            rw [e]
            simp [BD25_0, t1, ia, sb, nw]
    · have e : pS1 last (.tup xs) = none := by
        unfold pS1
        split
        · rename_i heq; cases heq; exact absurd rfl hl
        · rfl
      have hl' : ¬ ((xs.length : Int) = 2) := by omega
      rw [e]
      simp [BD25_0, t1, hl']
theorem abody25 (hw : aW Φ) {d : D} (h : Ab B N d) : runD Φ D25 [d] = .ok (.val (.bl (pS d).isSome), []) := by
  have t1 := h.isi_tup
  cases ht : d.isT with
  | false =>
    rw [ht] at t1
    have e : pS d = none := by cases d <;> first | rfl | cases ht
    rw [e]
    refine runD_rt (d := D25) (ds := [d]) (ρ := [.val d, .emp, .emp]) (t := .val (.bl false)) rfl ?_ rfl rfl
    simp [D25, n25, t1]
  | true =>
    obtain ⟨xs, rfl⟩ := isT_eq ht
    rw [ht] at t1
    rw [pS_tup]
    have ln : opf .len [.tup xs] = some (.val (.int (xs.length : Nat))) := rfl
    by_cases h1 : 1 ≤ xs.length
    · by_cases h2 : xs.length ≤ 20
      · have a1 : (1 : Int) ≤ (xs.length : Nat) := by omega
        have a2 : ((xs.length : Nat) : Int) ≤ 20 := by omega
        have fr := for_ck (Φ := Φ) (t := .name 2 false) (k := .it) (src := [.var 0]) (b := BD25_0) (ρ := [.val (.tup xs), .val (.int (-1)), .emp]) (ρ1 := [.val (.tup xs), .val (.int (-1)), .emp]) (ds := [.tup xs]) (xs := xs)
          (fun (a : Int) ρ => ∃ t2, ρ = [.val (.tup xs), .val (.int a), t2]) (fun l d => (pS1 l d).map Stp.p) (fun r => ∃ a t2, r = .ok (.rt (.val (.bl false)) [.val (.tup xs), a, t2])) (-1) rfl rfl (fun r ⟨a, t2, e⟩ => .inl ⟨_, _, e⟩) (fun x hx a ρ ⟨t2, hρ⟩ => by
            subst hρ
            refine ⟨[.val (.tup xs), .val (.int a), .val x], rfl, ?_⟩
            have z := lk_stop (Φ := Φ) hw (h.item hx) (A := .tup xs) (last := a)
            cases e : pS1 a x with
            | none => rw [e] at z; exact ⟨_, _, z⟩
            | some s => rw [e] at z; exact ⟨_, z, _, rfl⟩) ⟨.emp, rfl⟩
        have ff := pSs_fold xs (-1)
        rw [← ff]
        cases e : xs.foldlM (fun l d => (pS1 l d).map Stp.p) (-1) with
        | none =>
          rw [e] at fr
          obtain ⟨a, t2, f1⟩ := fr
          have f1' : evS Φ FR25_0 _ = _ := f1
          simp only [Option.isSome_none, Bool.and_false]
          refine runD_rt (d := D25) (ds := [.tup xs]) (ρ := [.val (.tup xs), a, t2]) (t := .val (.bl false)) rfl ?_ rfl rfl
          generalize D.tup xs = A at *
          simp [D25, n25, t1, ln, a1, a2, f1']
        | some l =>
          rw [e] at fr
          obtain ⟨ρ', f1, t2, f2⟩ := fr
          subst f2
          have f1' : evS Φ FR25_0 _ = _ := f1
          simp only [h1, h2, decide_true, Option.isSome_some, Bool.and_true]
          refine runD_rt (d := D25) (ds := [.tup xs]) (ρ := [.val (.tup xs), .val (.int l), t2]) (t := .val (.bl true)) rfl ?_ rfl rfl
          generalize D.tup xs = A at *
          simp [D25, n25, t1, ln, a1, a2, f1']
      · have a1 : (1 : Int) ≤ (xs.length : Nat) := by omega
        have a2 : ¬ ((xs.length : Nat) : Int) ≤ 20 := by omega
        simp only [h2, decide_false, Bool.and_false, Bool.false_and]
        refine runD_rt (d := D25) (ds := [.tup xs]) (ρ := [.val (.tup xs), .emp, .emp]) (t := .val (.bl false)) rfl ?_ rfl rfl
        generalize D.tup xs = A at *
        simp [D25, n25, t1, ln, a1, a2]
    · have a1 : ¬ (1 : Int) ≤ (xs.length : Nat) := by omega
      simp only [h1, decide_false, Bool.false_and]
      refine runD_rt (d := D25) (ds := [.tup xs]) (ρ := [.val (.tup xs), .emp, .emp]) (t := .val (.bl false)) rfl ?_ rfl rfl
      generalize D.tup xs = A at *
      simp [D25, n25, t1, ln, a1]
end W
namespace W
open PySem DL L2
variable {k : Nat} {Φ : Nat → Fn} {B : Int} {N : Nat}
/-! ## any data read as fields -/
def pF1 : D → Option Fld
  | .tup [.int w, .int a] => if 0 ≤ a ∧ a ≤ w ∧ w ≤ 100000 then some ⟨w, a⟩ else none
  | _ => none
def pFs : List D → Option (List Fld)
  | [] => some []
  | d :: r => (pF1 d).bind fun s => (pFs r).map (s :: ·)
def pF : D → Option (List Fld)
  | .tup xs => if xs.length ≤ 20 then pFs xs else none
  | _ => none
theorem pF1_eq {d : D} {s : Fld} (h : pF1 d = some s) : d = s.d ∧ 0 ≤ s.a ∧ s.a ≤ s.w ∧ s.w ≤ 100000 := by
  unfold pF1 at h
  split at h
  · split at h
    · rename_i hc
      cases h
      exact ⟨rfl, hc⟩
    · cases h
  · cases h
theorem pFs_eq : ∀ {xs : List D} {S : List Fld}, pFs xs = some S → xs = fd S ∧ ∀ s ∈ S, 0 ≤ s.a ∧ s.a ≤ s.w ∧ s.w ≤ 100000
  | [], S, h => by cases h; exact ⟨rfl, fun s hs => by cases hs⟩
  | d :: r, S, h => by
    obtain ⟨s, h1, h2⟩ := Option.bind_eq_some_iff.mp (show (pF1 d).bind (fun s => (pFs r).map (s :: ·)) = some S from h)
    obtain ⟨S', h3, rfl⟩ := Option.map_eq_some_iff.mp h2
    obtain ⟨e1, e2⟩ := pF1_eq h1
    obtain ⟨i1, i2⟩ := pFs_eq h3
    refine ⟨by rw [e1, i1]; rfl, fun x hx => ?_⟩
    rcases List.mem_cons.mp hx with rfl | hx
    · exact e2
    · exact i2 x hx
theorem pF_eq {d : D} {S : List Fld} (h : pF d = some S) : d = .tup (fd S) ∧ Fds S := by
  unfold pF at h
  split at h
  · rename_i xs
    split at h
    · rename_i hc
      obtain ⟨h1, h2⟩ := pFs_eq h
      subst h1
      rw [fd_len] at hc
      exact ⟨rfl, hc, fun s hs => (h2 s hs).1, fun s hs => (h2 s hs).2.1, fun s hs => (h2 s hs).2.2⟩
    · cases h
  · cases h
theorem pFs_fold : ∀ (xs : List D), (xs.foldlM (fun (_ : Unit) d => (pF1 d).map fun _ => ()) ()).isSome = (pFs xs).isSome
  | [] => rfl
  | d :: r => by
    rw [List.foldlM_cons]
    show ((pF1 d).map (fun _ => ()) >>= fun l => r.foldlM (fun (_ : Unit) d => (pF1 d).map fun _ => ()) l).isSome = ((pF1 d).bind fun s => (pFs r).map (s :: ·)).isSome
    cases e : pF1 d with
    | none => rfl
    | some s =>
      have ih := pFs_fold r
      show (r.foldlM (fun (_ : Unit) d => (pF1 d).map fun _ => ()) ()).isSome = ((pFs r).map (s :: ·)).isSome
      rw [ih, Option.isSome_map]
theorem all2 {x y : Bool} : opf .all [.lst [.bl x, .bl y]] = some (.val (.bl (x && y))) := by cases x <;> cases y <;> rfl
/-- one field -/
theorem ck_field (hi : aI Φ) {d : D} (h : Ab B N d) {A : D} {s2 : Slot} (h2 : s2 = .emp) : evSs Φ BD2_1 [.val A, .val d, s2] = match pF1 d with
    | some _ => .ok (.nx [.val A, .val d, s2])
    | none => .exc "ArgumentError" (.str "fields") [.val A, .val d, s2] := by
  subst h2
  have t1 := h.isi_tup
  have kx : okX (.str "fields") = true := by decide
  cases ht : d.isT with
  | false =>
    rw [ht] at t1
    have e : pF1 d = none := by cases d <;> first | rfl | cases ht
    rw [e]
    simp [BD2_1, t1, kx]
  | true =>
    obtain ⟨xs, rfl⟩ := isT_eq ht
    rw [ht] at t1
    by_cases hl : xs.length = 2
    · obtain ⟨a, b, rfl⟩ : ∃ a b, xs = [a, b] := by
        match xs, hl with
        | [a, b], _ => exact ⟨a, b, rfl⟩
      have ha := h.item (x := a) (by simp)
      have hb := h.item (x := b) (by simp)
      have e := lc_ty0S (Φ := Φ) (vs := [2]) (t := .name 2 false) (k := .it) (src := [.var 1]) (elt := EL2_0) (ρ := [.val A, .val (.tup [a, b]), .emp]) [.tup [a, b]] [a, b] id (fun x => D.bl x.isN) rfl rfl rfl rfl
        (fun x hx => ⟨[.val A, .val (.tup [a, b]), .val x], rfl, by
          have hx' : Ab B N x := by
            rcases List.mem_cons.mp hx with rfl | hx
            · exact ha
            · rw [List.mem_singleton.mp hx]; exact hb
          have := hi B N x hx'
          generalize D.tup [a, b] = X
          simp [EL2_0, this], rfl⟩) (by show 2 ≤ 16777216; omega)
      have e' : ev Φ LC2_0 _ = .ok (.own (.lst [.bl a.isN, .bl b.isN]), [.val A, .val (.tup [a, b]), .emp]) := e
      have al := all2 (x := a.isN) (y := b.isN)
      have i0 : opf .ix [.tup [a, b], .int 0] = some (.val a) := rfl
      have i1 : opf .ix [.tup [a, b], .int 1] = some (.val b) := rfl
      have ln : opf .len [.tup [a, b]] = some (.val (.int 2)) := rfl
      cases ea : a.isN with
      | false =>
        rw [ea] at al e'
        have e : pF1 (.tup [a, b]) = none := by cases a <;> first | rfl | cases ea
        rw [e]
        generalize D.tup [a, b] = X at *
        simp [BD2_1, t1, kx, ln, e', al]
      | true =>
        obtain ⟨w, rfl⟩ := isN_eq ea
        rw [ea] at al e'
        cases eb : b.isN with
        | false =>
          rw [eb] at al e'
          have e : pF1 (.tup [.int w, b]) = none := by cases b <;> first | rfl | cases eb
          rw [e]
          generalize D.tup [.int w, b] = X at *
          simp [BD2_1, t1, kx, ln, e', al]
        | true =>
          obtain ⟨c, rfl⟩ := isN_eq eb
          rw [eb] at al e'
          by_cases c1 : 0 ≤ c
          · by_cases c2 : c ≤ w
            · by_cases c3 : w ≤ 100000
              · have e : pF1 (.tup [.int w, .int c]) = some ⟨w, c⟩ := by unfold pF1; dsimp only; rw [if_pos ⟨c1, c2, c3⟩]
                rw [e]
                generalize D.tup [.int w, .int c] = X at *
                simp [BD2_1, t1, kx, ln, e', al, i0, i1, c1, c2, c3]
              · have e : pF1 (.tup [.int w, .int c]) = none := by unfold pF1; dsimp only; rw [if_neg (by omega)]
                rw [e]
                generalize D.tup [.int w, .int c] = X at *
                simp [BD2_1, t1, kx, ln, e', al, i0, i1, c1, c2, c3]
            · have e : pF1 (.tup [.int w, .int c]) = none := by unfold pF1; dsimp only; rw [if_neg (by omega)]
              rw [e]
              generalize D.tup [.int w, .int c] = X at *
              simp [BD2_1, t1, kx, ln, e', al, i0, i1, c1, c2]
          · have e : pF1 (.tup [.int w, .int c]) = none := by unfold pF1; dsimp only; rw [if_neg (by omega)]
            rw [e]
            generalize D.tup [.int w, .int c] = X at *
            simp [BD2_1, t1, kx, ln, e', al, i0, i1, c1]
    · have e : pF1 (.tup xs) = none := by
        unfold pF1
        split
        · rename_i heq; cases heq; exact absurd rfl hl
        · rfl
      have hl' : ¬ ((xs.length : Int) = 2) := by omega
      rw [e]
      simp [BD2_1, t1, kx, hl']
theorem pF_tup {xs : List D} : (pF (.tup xs)).isSome = (decide (xs.length ≤ 20) && (pFs xs).isSome) := by
  show (if xs.length ≤ 20 then pFs xs else none).isSome = _
  by_cases h2 : xs.length ≤ 20 <;> simp [h2]
theorem abody2 (hi : aI Φ) {d : D} (h : Ab B N d) : runD Φ D2 [d] = if (pF d).isSome then .ok (.val .non, []) else .exc "ArgumentError" (.str "fields") [] := by
  have t1 := h.isi_tup
  have kx : okX (.str "fields") = true := by decide
  cases ht : d.isT with
  | false =>
    rw [ht] at t1
    have e : pF d = none := by cases d <;> first | rfl | cases ht
    rw [e, if_neg (by simp)]
    refine runD_exc (d := D2) (ds := [d]) (ρ := [.val d, .emp, .emp]) rfl ?_ rfl
    simp [D2, n2, t1, kx]
  | true =>
    obtain ⟨xs, rfl⟩ := isT_eq ht
    rw [ht] at t1
    rw [pF_tup]
    have ln : opf .len [.tup xs] = some (.val (.int (xs.length : Nat))) := rfl
    by_cases h2 : xs.length ≤ 20
    · have a2 : ¬ (20 : Int) < ((xs.length : Nat) : Int) := by omega
      have fr := for_ck (Φ := Φ) (t := .name 1 false) (k := .it) (src := [.var 0]) (b := BD2_1) (ρ := [.val (.tup xs), .emp, .emp]) (ρ1 := [.val (.tup xs), .emp, .emp]) (ds := [.tup xs]) (xs := xs)
        (fun (_ : Unit) ρ => ∃ t2, ρ = [.val (.tup xs), t2, .emp]) (fun _ d => (pF1 d).map fun _ => ()) (fun r => ∃ a, r = .exc "ArgumentError" (.str "fields") [.val (.tup xs), a, .emp]) () rfl rfl (fun r ⟨a, e⟩ => .inr ⟨_, _, _, e⟩) (fun x hx a ρ ⟨t2, hρ⟩ => by
          subst hρ
          refine ⟨[.val (.tup xs), .val x, .emp], rfl, ?_⟩
          have z := ck_field (Φ := Φ) hi (h.item hx) (A := .tup xs) (s2 := .emp) rfl
          cases e : pF1 x with
          | none => rw [e] at z; exact ⟨_, z⟩
          | some s => rw [e] at z; exact ⟨_, z, _, rfl⟩) ⟨.emp, rfl⟩
      have ff := pFs_fold xs
      rw [← ff]
      cases e : xs.foldlM (fun (_ : Unit) d => (pF1 d).map fun _ => ()) () with
      | none =>
        rw [e] at fr
        obtain ⟨a, f1⟩ := fr
        have f1' : evS Φ FR2_1 _ = _ := f1
        simp only [Option.isSome_none, Bool.and_false, Bool.false_eq_true, if_false]
        refine runD_exc (d := D2) (ds := [.tup xs]) (ρ := [.val (.tup xs), a, .emp]) rfl ?_ rfl
        generalize D.tup xs = A at *
        simp [D2, n2, t1, ln, a2, f1']
      | some l =>
        rw [e] at fr
        obtain ⟨ρ', f1, t2, f2⟩ := fr
        subst f2
        have f1' : evS Φ FR2_1 _ = _ := f1
        simp only [h2, decide_true, Option.isSome_some, Bool.and_true, if_true]
        refine runD_nx (d := D2) (ds := [.tup xs]) (ρ := [.val (.tup xs), t2, .emp]) rfl ?_ rfl
        generalize D.tup xs = A at *
        simp [D2, n2, t1, ln, a2, f1']
    · have a2 : (20 : Int) < ((xs.length : Nat) : Int) := by omega
      simp only [h2, decide_false, Bool.false_and, Bool.false_eq_true, if_false]
      refine runD_exc (d := D2) (ds := [.tup xs]) (ρ := [.val (.tup xs), .emp, .emp]) rfl ?_ rfl
      generalize D.tup xs = A at *
      simp [D2, n2, t1, ln, a2, kx]
/-- one field, by the law -/
theorem lk_field (hw : aW Φ) {d : D} (h : Ab B N d) {A : D} : match pF1 d with
    | some s => evSs Φ BD26_0 [.val A, .val d] = .ok (.nx [.val A, .val d])
    | none => evSs Φ BD26_0 [.val A, .val d] = .ok (.rt (.val (.bl false)) [.val A, .val d]) := by
  have t1 := h.isi_tup
  cases ht : d.isT with
  | false =>
    rw [ht] at t1
    have e : pF1 d = none := by cases d <;> first | rfl | cases ht
    rw [e]
    simp [BD26_0, t1]
  | true =>
    obtain ⟨xs, rfl⟩ := isT_eq ht
    rw [ht] at t1
    by_cases hl : xs.length = 2
    · obtain ⟨a, b, rfl⟩ : ∃ a b, xs = [a, b] := by
        match xs, hl with
        | [a, b], _ => exact ⟨a, b, rfl⟩
      have ha := h.item (x := a) (by simp)
      have hb := h.item (x := b) (by simp)
      have ia := hw B N a 0 100000 ha
      have i0 : opf .ix [.tup [a, b], .int 0] = some (.val a) := rfl
      have i1 : opf .ix [.tup [a, b], .int 1] = some (.val b) := rfl
      have ln : opf .len [.tup [a, b]] = some (.val (.int 2)) := rfl
      cases ea : a.inR 0 100000 with
      | false =>
        rw [ea] at ia
        have e : pF1 (.tup [a, b]) = none := by
          unfold pF1
          split
          · rename_i p c heq
            cases heq
            have ea' : (decide (0 ≤ p) && decide (p ≤ 100000)) = false := ea
            rw [if_neg]
            intro hc
            rw [decide_eq_true (by omega), decide_eq_true hc.2.2] at ea'
            cases ea'
          · rfl
        rw [e]
        generalize D.tup [a, b] = X at *
        simp [BD26_0, t1, ln, i0, i1, ia]
      | true =>
        obtain ⟨w, rfl, c1, c2⟩ := inR_eq ea
        rw [ea] at ia
        have ib := hw B N b 0 w hb
        cases eb : b.inR 0 w with
        | false =>
          rw [eb] at ib
          have e : pF1 (.tup [.int w, b]) = none := by
            unfold pF1
            split
            · rename_i p c heq
              cases heq
              have eb' : (decide (0 ≤ c) && decide (c ≤ w)) = false := eb
              rw [if_neg]
              intro hc
              rw [decide_eq_true hc.1, decide_eq_true hc.2.1] at eb'
              cases eb'
            · rfl
          rw [e]
          generalize D.tup [.int w, b] = X at *
          simp [BD26_0, t1, ln, i0, i1, ia, ib]
        | true =>
          obtain ⟨c, rfl, c3, c4⟩ := inR_eq eb
          rw [eb] at ib
          have e : pF1 (.tup [.int w, .int c]) = some ⟨w, c⟩ := by unfold pF1; dsimp only; rw [if_pos ⟨c3, c4, c2⟩]
          rw [e]
          generalize D.tup [.int w, .int c] = X at *
          simp [BD26_0, t1, ln, i0, i1, ia, ib]
    · have e : pF1 (.tup xs) = none := by
        unfold pF1
        split
        · rename_i heq; cases heq; exact absurd rfl hl
        · rfl
      have hl' : ¬ ((xs.length : Int) = 2) := by omega
      rw [e]
      simp [BD26_0, t1, hl']
theorem abody26 (hw : aW Φ) {d : D} (h : Ab B N d) : runD Φ D26 [d] = .ok (.val (.bl (pF d).isSome), []) := by
  have t1 := h.isi_tup
  cases ht : d.isT with
  | false =>
    rw [ht] at t1
    have e : pF d = none := by cases d <;> first | rfl | cases ht
    rw [e]
    refine runD_rt (d := D26) (ds := [d]) (ρ := [.val d, .emp]) (t := .val (.bl false)) rfl ?_ rfl rfl
    simp [D26, n26, t1]
  | true =>
    obtain ⟨xs, rfl⟩ := isT_eq ht
    rw [ht] at t1
    rw [pF_tup]
    have ln : opf .len [.tup xs] = some (.val (.int (xs.length : Nat))) := rfl
    by_cases h2 : xs.length ≤ 20
    · have a2 : ¬ (20 : Int) < ((xs.length : Nat) : Int) := by omega
      have fr := for_ck (Φ := Φ) (t := .name 1 false) (k := .it) (src := [.var 0]) (b := BD26_0) (ρ := [.val (.tup xs), .emp]) (ρ1 := [.val (.tup xs), .emp]) (ds := [.tup xs]) (xs := xs)
        (fun (_ : Unit) ρ => ∃ t2, ρ = [.val (.tup xs), t2]) (fun _ d => (pF1 d).map fun _ => ()) (fun r => ∃ a, r = .ok (.rt (.val (.bl false)) [.val (.tup xs), a])) () rfl rfl (fun r ⟨a, e⟩ => .inl ⟨_, _, e⟩) (fun x hx a ρ ⟨t2, hρ⟩ => by
          subst hρ
          refine ⟨[.val (.tup xs), .val x], rfl, ?_⟩
          have z := lk_field (Φ := Φ) hw (h.item hx) (A := .tup xs)
          cases e : pF1 x with
          | none => rw [e] at z; exact ⟨_, z⟩
          | some s => rw [e] at z; exact ⟨_, z, _, rfl⟩) ⟨.emp, rfl⟩
      have ff := pFs_fold xs
      rw [← ff]
      cases e : xs.foldlM (fun (_ : Unit) d => (pF1 d).map fun _ => ()) () with
      | none =>
        rw [e] at fr
        obtain ⟨a, f1⟩ := fr
        have f1' : evS Φ FR26_0 _ = _ := f1
        simp only [Option.isSome_none, Bool.and_false]
        refine runD_rt (d := D26) (ds := [.tup xs]) (ρ := [.val (.tup xs), a]) (t := .val (.bl false)) rfl ?_ rfl rfl
        generalize D.tup xs = A at *
        simp [D26, n26, t1, ln, a2, f1']
      | some l =>
        rw [e] at fr
        obtain ⟨ρ', f1, t2, f2⟩ := fr
        subst f2
        have f1' : evS Φ FR26_0 _ = _ := f1
        simp only [h2, decide_true, Option.isSome_some, Bool.and_true]
        refine runD_rt (d := D26) (ds := [.tup xs]) (ρ := [.val (.tup xs), t2]) (t := .val (.bl true)) rfl ?_ rfl rfl
        generalize D.tup xs = A at *
        simp [D26, n26, t1, ln, a2, f1']
    · have a2 : (20 : Int) < ((xs.length : Nat) : Int) := by omega
      simp only [h2, decide_false, Bool.false_and]
      refine runD_rt (d := D26) (ds := [.tup xs]) (ρ := [.val (.tup xs), .emp]) (t := .val (.bl false)) rfl ?_ rfl rfl
      generalize D.tup xs = A at *
      simp [D26, n26, t1, ln, a2]
end W
namespace W
open PySem DL L2
variable {k : Nat} {Φ : Nat → Fn}
abbrev stI (Φ : Nat → Fn) (S : List Stp) (F : List Fld) : Prop := Φ 4 [.tup (sd S), .tup (fd F)] = .ok (.val (.tup (rws (sf S F 0 0))), [])
theorem zip_rf {L : List (Option (Nat × Int))} {F : List Fld} : srcf .zip [.tup (rws L), .tup (fd F)] = some ((L.zip F).map fun q => D.tup [rowD q.1, q.2.d]) := by
  rw [zip_tt]; unfold rws fd; rw [zip_map]
theorem zip_le {L : List (Option (Nat × Int))} {F : List Fld} (h : F.length ≤ 20) : (L.zip F).length ≤ 16777216 := by rw [List.length_zip]; omega
theorem body5 {S : List Stp} {F : List Fld} (hF : Fds F) (hw : wtI Φ 3) (hs : stI Φ S F) : runD Φ D5 [.tup (sd S), .tup (fd F)] = .ok (.val (.tup ((shl S (sf S F 0 0) F).map .int)), []) := by
  have e := lc_tyS (Φ := Φ) (vs := [3, 4]) (t := .tup [(.name 3 false), (.name 4 false)]) (k := .zip) (src := [.var 2, .var 1]) (ifs := IF5_0) (elt := EL5_0) (ρ := [.val (.tup (sd S)), .val (.tup (fd F)), .val (.tup (rws (sf S F 0 0))), .emp, .emp]) [.tup (rws (sf S F 0 0)), .tup (fd F)] ((sf S F 0 0).zip F) (fun q => D.tup [rowD q.1, q.2.d]) (fun q => q.1.isSome) (fun q => D.int (sh1 S q)) rfl zip_rf rfl rfl
    (fun q hq => ⟨[.val (.tup (sd S)), .val (.tup (fd F)), .val (.tup (rws (sf S F 0 0))), .val (rowD q.1), .val q.2.d], rfl, by
      generalize rws (sf S F 0 0) = R
      generalize sd S = A
      generalize fd F = B
      obtain ⟨o, f⟩ := q
      cases o with
      | none => simp [IF5_0, rowD]
      | some p => simp [IF5_0, rowD], fun hsm => by
      obtain ⟨n, p, s, e1, e2, e3, e4, e5⟩ := sh_ev hw (sf_mem F 0 0) (a := 0) (b := 0) hq hsm
      rw [e2, e5]
      generalize wtd s q.2 = y at *
      generalize s.d = X at *
      generalize q.2.d = Z at *
      generalize rws (sf S F 0 0) = R
      generalize sd S = A at *
      generalize fd F = B
      generalize (n : Int) = ni at *
      simp [EL5_0, e3, e4], rfl⟩) (zip_le hF.l1)
  have e' : ev Φ LC5_0 _ = _ := e
  have q : (((sf S F 0 0).zip F).filter fun q => q.1.isSome).map (fun q => D.int (sh1 S q)) = (shl S (sf S F 0 0) F).map .int := by unfold shl; rw [List.map_map]; rfl
  rw [q] at e'
  unfold stI at hs
  generalize (shl S (sf S F 0 0) F).map D.int = Z at *
  generalize rws (sf S F 0 0) = R at *
  generalize sd S = A at *
  generalize fd F = B at *
  have fin : evSs Φ n5 [.val (.tup A), .val (.tup B), .emp, .emp, .emp] = .ok (.rt (.val (.tup Z)) [.val (.tup A), .val (.tup B), .val (.tup R), .emp, .emp]) := by
    simp [n5, hs, e']
  exact runD_rt (d := D5) (ds := [.tup A, .tup B]) rfl fin rfl rfl
def cln (S : List Stp) (F : List Fld) : Bool := !anyN (sf S F 0 0) && ((shl S (sf S F 0 0) F).filter fun x => decide (0 < x)).isEmpty
theorem shl_len {S : List Stp} {L : List (Option (Nat × Int))} {F : List Fld} (h : F.length ≤ 20) : (shl S L F).length ≤ 20 := by
  unfold shl
  have := (List.filter_sublist (l := L.zip F) (p := fun q => q.1.isSome)).length_le
  rw [List.length_zip] at this
  rw [List.length_map]; omega
theorem body6 {S : List Stp} (hS : Sps S) {F : List Fld} (hF : Fds F) (hs : stI Φ S F) (hh : Φ 5 [.tup (sd S), .tup (fd F)] = .ok (.val (.tup ((shl S (sf S F 0 0) F).map .int)), [])) : runD Φ D6 [.tup (sd S), .tup (fd F)] = .ok (.val (.bl (cln S F)), []) := by
  have nn := notin_rws (L := sf S F 0 0) ((nice_rws hS hF).ok (by omega) (by omega))
  have dft : ∀ d : D, opf .tru [d] = DL.b1 (truth d) := fun _ => Eq.trans rfl rfl
  have sl := shl_len (S := S) (L := sf S F 0 0) hF.l1
  have e := lc_tyS (Φ := Φ) (vs := [3]) (t := .name 3 false) (k := .it) (src := [.call 5 [false, false] [.var 0, .var 1]]) (ifs := IF6_0) (elt := EL6_0) (ρ := [.val (.tup (sd S)), .val (.tup (fd F)), .val (.tup (rws (sf S F 0 0))), .emp]) [.tup ((shl S (sf S F 0 0) F).map .int)] (shl S (sf S F 0 0) F) D.int (fun x => decide (0 < x)) D.int (by
      generalize (shl S (sf S F 0 0) F).map D.int = Z at *
      generalize rws (sf S F 0 0) = R
      generalize sd S = A at *
      generalize fd F = B at *
      simp [hh]) rfl rfl rfl
    (fun x hx => ⟨[.val (.tup (sd S)), .val (.tup (fd F)), .val (.tup (rws (sf S F 0 0))), .val (.int x)], rfl, by
      generalize rws (sf S F 0 0) = R
      generalize sd S = A
      generalize fd F = B
      by_cases c : 0 < x <;> simp [IF6_0, c], fun _ => by
      generalize rws (sf S F 0 0) = R
      generalize sd S = A
      generalize fd F = B
      simp [EL6_0], rfl⟩) (by show _ ≤ 16777216; omega)
  have e' : ev Φ LC6_0 _ = _ := e
  unfold cln
  have em : ∀ l : List Int, (l.map D.int).isEmpty = l.isEmpty := fun l => by cases l <;> rfl
  have em' := em ((shl S (sf S F 0 0) F).filter fun x => decide (0 < x))
  rw [← em']
  unfold stI at hs
  generalize ((shl S (sf S F 0 0) F).filter fun x => decide (0 < x)).map D.int = Y at *
  generalize (shl S (sf S F 0 0) F).map D.int = Z at *
  generalize anyN (sf S F 0 0) = an at *
  generalize rws (sf S F 0 0) = R at *
  generalize sd S = A at *
  generalize fd F = B at *
  have fin : evSs Φ n6 [.val (.tup A), .val (.tup B), .emp, .emp] = .ok (.rt (.val (.bl (!an && Y.isEmpty))) [.val (.tup A), .val (.tup B), .val (.tup R), .emp]) := by
    cases an with
    | true => simp [n6, hs, nn]
    | false =>
      cases Y with
      | nil => simp [n6, hs, nn, e']
      | cons y Y => simp [n6, hs, nn, e']
  exact runD_rt (d := D6) (ds := [.tup A, .tup B]) rfl fin rfl rfl
end W
namespace W
open PySem DL L2
variable {k : Nat} {Φ : Nat → Fn}
/-! ## least stops -/
structure Wr (V : List (List Int)) (m : Nat) : Prop where
  n0 : 1 ≤ V.length
  n1 : V.length ≤ 20
  len : ∀ r ∈ V, r.length = m
  m0 : 1 ≤ m
  m1 : m ≤ 20
  b : ∀ r ∈ V, ∀ x ∈ r, 0 ≤ x ∧ x ≤ 5000
def rI (r : List Int) : D := .tup (r.map .int)
def wdD (V : List (List Int)) : List D := V.map rI
def cmx (V : List (List Int)) (c : Nat) : Int := maxI (V.map fun r => r.getD c 0)
def lsP (V : List (List Int)) (g : Int) : Nat → Int
  | 0 => 0
  | c + 1 => lsP V g c + cmx V c + g
def lsD (V : List (List Int)) (g : Int) (n : Nat) : List D := (List.range n).map fun i => D.int (lsP V g i)
theorem lsD_succ {V : List (List Int)} {g : Int} {n : Nat} : lsD V g (n + 1) = lsD V g n ++ [D.int (lsP V g n)] := by unfold lsD; rw [List.range_succ, List.map_append]; rfl
theorem lsD_len {V : List (List Int)} {g : Int} {n : Nat} : (lsD V g n).length = n := by unfold lsD; simp
theorem lsD_last {V : List (List Int)} {g : Int} {n : Nat} : atI (lsD V g (n + 1)) (-1) = some (.int (lsP V g n)) := by rw [lsD_succ]; exact atI_end
theorem wd_len {V : List (List Int)} : (wdD V).length = V.length := by unfold wdD; simp
theorem wd_ix0 {V : List (List Int)} {m : Nat} (h : Wr V m) : ∃ r, r ∈ V ∧ opf .ix [.tup (wdD V), .int 0] = some (.val (rI r)) := by
  cases V with
  | nil => have := h.n0; simp at this
  | cons r V => exact ⟨r, List.mem_cons_self, by show (atI (rI r :: wdD V) 0).map _ = _; rw [atI_0]; rfl⟩
theorem rI_at {r : List Int} {c : Nat} (h : c < r.length) : opf .ix [rI r, .int (c : Nat)] = some (.val (.int (r.getD c 0))) := by
  show (atI (r.map D.int) (c : Int)).map Slot.val = _
  rw [atI_nat (v := D.int (r.getD c 0)) (by rw [List.getElem?_map, List.getElem?_eq_getElem h]; simp [h])]
  rfl
theorem col_ls {V : List (List Int)} {m : Nat} (h : Wr V m) {c : Nat} (hc : c < m) {src : E} {vr vc : Nat} {ρ : Sts} (hs : evVs Φ [src] ρ = .ok ([.tup (wdD V)], ρ)) (ho : ownAny ρ [vr] = false) (hb : backE ρ (wipeE ρ [vr]) [vr] = ρ)
    (ha : ∀ d, ∃ ρ2, assignT (.name vr false) (.val d) (wipeE ρ [vr]) = some ρ2 ∧ wipeE ρ2 [vr] = wipeE ρ [vr] ∧ (∀ y, opf .ix [d, .int (c : Nat)] = some (.val y) → rel (ev Φ (.op .ix [.var vr, .var vc]) ρ2) = .ok (y, ρ2))) :
    ev Φ (.lc [vr] (.name vr false) .it [src] [] (.op .ix [.var vr, .var vc])) ρ = .ok (.own (.lst ((V.map fun r => r.getD c 0).map .int)), ρ) := by
  have q : (V.map fun r => r.getD c 0).map D.int = V.map fun r => D.int (r.getD c 0) := by rw [List.map_map]; rfl
  rw [q]
  have n1 := h.n1
  exact lc_ty0S (Φ := Φ) (vs := [vr]) (t := .name vr false) (k := .it) (src := [src]) (elt := .op .ix [.var vr, .var vc]) (ρ := ρ) [.tup (wdD V)] V rI (fun r => D.int (r.getD c 0)) hs rfl ho hb
    (fun r hr => by
      obtain ⟨ρ2, a1, a2, a3⟩ := ha (rI r)
      exact ⟨ρ2, a1, a3 _ (rI_at (by rw [h.len r hr]; exact hc)), a2⟩) (by show _ ≤ 16777216; omega)
theorem cmx_opf {V : List (List Int)} {m : Nat} (h : Wr V m) {c : Nat} : opf .max [.lst ((V.map fun r => r.getD c 0).map .int)] = some (.val (.int (cmx V c))) := by
  refine opf_maxI fun z => ?_
  have e := congrArg List.length z
  have := h.n0
  rw [List.length_map, List.length_nil] at e
  omega
end W
namespace W
open PySem DL L2
variable {k : Nat} {Φ : Nat → Fn}
theorem rI_len {r : List Int} : opf .len [rI r] = some (.val (.int (r.length : Nat))) := by
  show some (Slot.val (.int ((r.map D.int).length : Nat))) = _
  rw [List.length_map]
theorem rI_tup {r : List Int} : opf (.isi "tuple") [rI r] = some (.val (.bl true)) := isi_tup_tuple
theorem dv20 : binf .FloorDiv (.int 100000) (.int 20) = some (.val (.int 5000)) := by rw [bin_div (divOk_of (by decide) (by decide))]; rfl
theorem body8 (hi : isI Φ) {V : List (List Int)} {m : Nat} (h : Wr V m) {g : Int} (g0 : 1 ≤ g) (g1 : g ≤ 100000) : runD Φ D8 [.tup (wdD V), .int g] = .ok (.val (.tup (lsD V g m)), []) := by
  have m0 := h.m0
  have m1 := h.m1
  have n0 := h.n0
  have n1 := h.n1
  obtain ⟨r0, hr0, ix0⟩ := wd_ix0 h
  have l0 : opf .len [rI r0] = some (.val (.int (m : Nat))) := by rw [rI_len, h.len r0 hr0]
  have e0 := lc_ty0S (Φ := Φ) (vs := [3]) (t := .name 3 false) (k := .it) (src := [.var 0]) (elt := EL8_0) (ρ := [.val (.tup (wdD V)), .val (.int g), .emp, .emp, .emp, .emp, .emp]) [.tup (wdD V)] V rI (fun _ => D.bl true) rfl rfl rfl rfl
    (fun r hr => ⟨[.val (.tup (wdD V)), .val (.int g), .emp, .val (rI r), .emp, .emp, .emp], rfl, by
      have := rI_tup (r := r)
      generalize rI r = X at *
      generalize wdD V = A
      simp [EL8_0, this], rfl⟩) (by show _ ≤ 16777216; omega)
  have e0' : ev Φ LC8_0 _ = _ := e0
  have e1 := lc_ty0S (Φ := Φ) (vs := [3]) (t := .name 3 false) (k := .it) (src := [.var 0]) (elt := EL8_1) (ρ := [.val (.tup (wdD V)), .val (.int g), .val (.int (m : Nat)), .emp, .emp, .emp, .emp]) [.tup (wdD V)] V rI (fun _ => D.bl true) rfl rfl rfl rfl
    (fun r hr => ⟨[.val (.tup (wdD V)), .val (.int g), .val (.int (m : Nat)), .val (rI r), .emp, .emp, .emp], rfl, by
      have := rI_len (r := r)
      rw [h.len r hr] at this
      generalize rI r = X at *
      generalize wdD V = A
      generalize (m : Int) = mi at *
      simp [EL8_1, this], rfl⟩) (by show _ ≤ 16777216; omega)
  have e1' : ev Φ LC8_1 _ = _ := e1
  have al := all_true (xs := V)
  obtain ⟨ρ', f1, t3, f2⟩ := for_ty (Φ := Φ) (t := .name 3 false) (k := .it) (src := [.var 0]) (b := BD8_3) (ρ := [.val (.tup (wdD V)), .val (.int g), .val (.int (m : Nat)), .emp, .emp, .emp, .emp]) (ρ1 := [.val (.tup (wdD V)), .val (.int g), .val (.int (m : Nat)), .emp, .emp, .emp, .emp]) (ds := [.tup (wdD V)]) V rI
    (fun _ ρ => ∃ d, ρ = [.val (.tup (wdD V)), .val (.int g), .val (.int (m : Nat)), d, .emp, .emp, .emp] ∧ (d = .emp ∨ ∃ x, d = .val x)) rfl rfl (fun pre r post ρ hp ⟨d, hρ, _⟩ => by
      subst hρ
      have hr : r ∈ V := by rw [hp]; simp
      have e := lc_ty0S (Φ := Φ) (vs := [6]) (t := .name 6 false) (k := .it) (src := [.var 3]) (elt := EL8_2) (ρ := [.val (.tup (wdD V)), .val (.int g), .val (.int (m : Nat)), .val (rI r), .emp, .emp, .emp]) [rI r] r D.int (fun _ => D.bl true) rfl rfl rfl rfl
        (fun x hx => ⟨[.val (.tup (wdD V)), .val (.int g), .val (.int (m : Nat)), .val (rI r), .emp, .emp, .val (.int x)], rfl, by
          obtain ⟨b0, b1⟩ := h.b r hr x hx
          have dv := dv20
          generalize rI r = X at *
          generalize wdD V = A
          simp [EL8_2, hi x, b0, b1, dv], rfl⟩) (by rw [h.len r hr]; show _ ≤ 16777216; omega)
      have e' : ev Φ LC8_2 _ = _ := e
      have al := all_true (xs := r)
      refine ⟨[.val (.tup (wdD V)), .val (.int g), .val (.int (m : Nat)), .val (rI r), .emp, .emp, .emp], [.val (.tup (wdD V)), .val (.int g), .val (.int (m : Nat)), .val (rI r), .emp, .emp, .emp], rfl, .inl ?_, _, rfl, .inr ⟨_, rfl⟩⟩
      generalize (r.map fun _ => D.bl true) = B at *
      generalize rI r = X at *
      generalize wdD V = A at *
      simp [BD8_3, e', al]) ⟨.emp, rfl, .inl rfl⟩
  obtain ⟨f2, ht3⟩ := f2
  subst f2
  have f1' : evS Φ FR8_3 _ = _ := f1
  obtain ⟨ρ', h1, u5, h2⟩ := for_ty (Φ := Φ) (t := .name 5 false) (k := .rng) (src := [(.op (.bin .Sub) [(.var 2), (.lit (.int 1))])]) (b := BD8_5) (ρ := [.val (.tup (wdD V)), .val (.int g), .val (.int (m : Nat)), t3, .own (.lst [.int 0]), .emp, .emp]) (ρ1 := [.val (.tup (wdD V)), .val (.int g), .val (.int (m : Nat)), t3, .own (.lst [.int 0]), .emp, .emp]) (ds := [.int ((m : Int) - 1)]) (List.range (m - 1)) (fun (i : Nat) => D.int i)
    (fun pre ρ => ∃ t5, ρ = [.val (.tup (wdD V)), .val (.int g), .val (.int (m : Nat)), t3, .own (.lst (lsD V g (pre.length + 1))), t5, .emp]) (by
      generalize wdD V = A at *
      simp) (rng1 (n := m - 1) (by omega) (by omega)) (fun pre c post ρ hp ⟨t5, hρ⟩ => by
      subst hρ
      have pl : pre.length < m - 1 := by have := congrArg List.length hp; simp at this; omega
      have pc : c = pre.length := by
        have e : (List.range (m - 1))[pre.length]? = some c := by rw [hp]; simp
        rw [List.getElem?_range pl] at e
        exact (Option.some.inj e).symm
      subst pc
      have la := lsD_last (V := V) (g := g) (n := pre.length)
      have e := col_ls (Φ := Φ) h (c := pre.length) (by omega) (src := .var 0) (vr := 3) (vc := 5) (ρ := [.val (.tup (wdD V)), .val (.int g), .val (.int (m : Nat)), t3, .own (.lst (lsD V g (pre.length + 1))), .val (.int (pre.length : Nat)), .emp]) rfl (by rcases ht3 with rfl | ⟨x, rfl⟩ <;> rfl) rfl
        (fun d => ⟨[.val (.tup (wdD V)), .val (.int g), .val (.int (m : Nat)), .val d, .own (.lst (lsD V g (pre.length + 1))), .val (.int (pre.length : Nat)), .emp], rfl, rfl, fun y hy => by
          generalize wdD V = A
          generalize lsD V g (pre.length + 1) = B
          simp [hy]⟩)
      have e' : ev Φ LC8_4 _ = _ := e
      have mxo := cmx_opf h (c := pre.length)
      have ap : muf .append (.lst (lsD V g (pre.length + 1))) [.int (lsP V g pre.length + cmx V pre.length + g)] = some (.non, .lst (lsD V g (pre.length + 1 + 1))) := by
        rw [muf_app (by rw [lsD_len]; show _ < 16777216; omega), lsD_succ (n := pre.length + 1)]
        rfl
      have pp : (pre ++ [pre.length]).length = pre.length + 1 := by simp
      refine ⟨[.val (.tup (wdD V)), .val (.int g), .val (.int (m : Nat)), t3, .own (.lst (lsD V g (pre.length + 1))), .val (.int (pre.length : Nat)), .emp], [.val (.tup (wdD V)), .val (.int g), .val (.int (m : Nat)), t3, .own (.lst (lsD V g (pre.length + 1 + 1))), .val (.int (pre.length : Nat)), .emp], rfl, .inl ?_, _, by rw [pp]⟩
      generalize lsD V g (pre.length + 1 + 1) = N1 at *
      generalize lsD V g (pre.length + 1) = N0 at *
      generalize (V.map fun r => r.getD pre.length 0).map D.int = CL at *
      generalize wdD V = A at *
      generalize cmx V pre.length = cm at *
      generalize lsP V g pre.length = lp at *
      generalize (pre.length : Int) = pi at *
      simp [BD8_5, la, e', mxo, ap]) ⟨.emp, rfl⟩
  subst h2
  rw [List.length_range] at h1
  have mm : m - 1 + 1 = m := by omega
  rw [mm] at h1
  have h1' : evS Φ FR8_5 _ = _ := h1
  have x1 : (1 : Int) ≤ (wdD V).length := by rw [wd_len]; omega
  have x2 : ((wdD V).length : Int) ≤ 20 := by rw [wd_len]; omega
  have y1 : (1 : Int) ≤ (m : Nat) := by omega
  have y2 : ((m : Nat) : Int) ≤ 20 := by omega
  generalize (V.map fun _ => D.bl true) = B at *
  generalize rI r0 = X at *
  generalize lsD V g m = N at *
  generalize wdD V = A at *
  generalize ((m : Nat) : Int) = mi at *
  have fin : evSs Φ n8 [.val (.tup A), .val (.int g), .emp, .emp, .emp, .emp, .emp] = .ok (.rt (.val (.tup N)) [.val (.tup A), .val (.int g), .val (.int mi), t3, .own (.lst N), u5, .emp]) := by
    simp [n8, x1, x2, e0', al, ix0, l0, y1, y2, e1', f1', hi g, g0, g1, h1']
  exact runD_rt (d := D8) (ds := [.tup A, .int g]) rfl fin rfl rfl
end W
namespace W
open PySem DL L2
variable {k : Nat} {Φ : Nat → Fn}
/-! ## a stop for signs -/
def sgn (F : List Fld) : Int × Int := if F.isEmpty then (0, 0) else (maxI (F.map Fld.a), maxI (F.map Fld.a) + maxI (F.map fun f => f.w - f.a))
def sgD (F : List Fld) : D := .tup [.int (sgn F).1, .int (sgn F).2]
theorem fold_add (c : Int) : ∀ (l : List Int) (x : Int), l.foldl (fun a b => if b + c > a then b + c else a) (x + c) = l.foldl (fun a b => if b > a then b else a) x + c
  | [], x => rfl
  | y :: l, x => by
    rw [List.foldl_cons, List.foldl_cons]
    by_cases h : y > x
    · rw [if_pos h, if_pos (by omega)]; exact fold_add c l y
    · rw [if_neg h, if_neg (by omega)]; exact fold_add c l x
theorem max_add {α : Type} {f g : α → Int} {c : Int} {l : List α} (h : l ≠ []) (hf : ∀ x, f x = g x + c) : maxI (l.map f) = maxI (l.map g) + c := by
  cases l with
  | nil => exact absurd rfl h
  | cons x l =>
    show (l.map f).foldl (fun a b => if b > a then b else a) (f x) = (l.map g).foldl (fun a b => if b > a then b else a) (g x) + c
    rw [← fold_add, List.foldl_map, List.foldl_map, hf x]
    congr 1
    funext a b
    rw [hf b]
theorem ahead_ev {F : List Fld} (hF : F.length ≤ 20) {el : E} {s1 : Slot} (g : Fld → Int) (he : ∀ f : Fld, rel (ev Φ el [.val (.tup (fd F)), s1, .val (.int f.w), .val (.int f.a)]) = .ok (.int (g f), [.val (.tup (fd F)), s1, .val (.int f.w), .val (.int f.a)])) :
    ev Φ (.lc [2, 3] (.tup [(.name 2 false), (.name 3 false)]) .it [.var 0] [] el) [.val (.tup (fd F)), s1, .emp, .emp] = .ok (.own (.lst ((F.map g).map .int)), [.val (.tup (fd F)), s1, .emp, .emp]) := by
  have q : (F.map g).map D.int = F.map fun f => D.int (g f) := by rw [List.map_map]; rfl
  rw [q]
  exact lc_ty0S (Φ := Φ) (vs := [2, 3]) (t := .tup [(.name 2 false), (.name 3 false)]) (k := .it) (src := [.var 0]) (elt := el) (ρ := [.val (.tup (fd F)), s1, .emp, .emp]) [.tup (fd F)] F Fld.d (fun f => D.int (g f)) rfl rfl rfl rfl
    (fun f _ => ⟨[.val (.tup (fd F)), s1, .val (.int f.w), .val (.int f.a)], rfl, he f, rfl⟩) (by show _ ≤ 16777216; omega)
theorem body9 {F : List Fld} (hF : Fds F) (hc : Φ 2 [.tup (fd F)] = .ok (.val .non, [])) : runD Φ D9 [.tup (fd F)] = .ok (.val (sgD F), []) := by
  have dft : ∀ d : D, opf .tru [d] = DL.b1 (truth d) := fun _ => Eq.trans rfl rfl
  have l1 := hF.l1
  by_cases hz : F = []
  · subst hz
    have hc : Φ 2 [.tup []] = .ok (.val .non, []) := hc
    have fin : evSs Φ n9 [.val (.tup []), .emp, .emp, .emp] = .ok (.rt (.val (.tup [.int 0, .int 0])) [.val (.tup []), .emp, .emp, .emp]) := by
      simp [n9, hc, dft]
    exact runD_rt (d := D9) (ds := [.tup []]) rfl fin rfl rfl
  · have e0 := fun s1 => ahead_ev (Φ := Φ) (s1 := s1) (el := EL9_0) l1 Fld.a (fun f => by
      generalize fd F = A
      simp [EL9_0])
    have e0' : ∀ s1, ev Φ LC9_0 _ = _ := e0
    have e1 := fun s1 => ahead_ev (Φ := Φ) (s1 := s1) (el := EL9_1) l1 (fun f => f.w - f.a) (fun f => by
      generalize fd F = A
      simp [EL9_1])
    have e1' : ∀ s1, ev Φ LC9_1 _ = _ := e1
    have m0 := opf_maxI (l := F.map Fld.a) (by simpa using hz)
    have m1 := opf_maxI (l := F.map fun f => f.w - f.a) (by simpa using hz)
    have ne : (fd F).isEmpty = false := by
      cases F with
      | nil => exact absurd rfl hz
      | cons _ _ => rfl
    have ne2 : F.isEmpty = false := by
      cases F with
      | nil => exact absurd rfl hz
      | cons _ _ => rfl
    have sg : sgD F = .tup [.int (maxI (F.map Fld.a)), .int (maxI (F.map Fld.a) + maxI (F.map fun f => f.w - f.a))] := by unfold sgD sgn; rw [ne2]; rfl
    rw [sg]
    generalize maxI (F.map Fld.a) = x at *
    generalize maxI (F.map fun f => f.w - f.a) = y at *
    generalize (F.map Fld.a).map D.int = X at *
    generalize (F.map fun f => f.w - f.a).map D.int = Y at *
    generalize fd F = A at *
    have fin : evSs Φ n9 [.val (.tup A), .emp, .emp, .emp] = .ok (.rt (.val (.tup [.int x, .int (x + y)])) [.val (.tup A), .val (.int x), .emp, .emp]) := by
      simp [n9, hc, dft, ne, e0', e1', m0, m1]
    exact runD_rt (d := D9) (ds := [.tup A]) rfl fin rfl rfl
end W
namespace W
open PySem DL L2
variable {k : Nat} {Φ : Nat → Fn}
/-! ## leaders -/
theorem rng3 {i j c : Int} {N : Nat} (c0 : 0 < c) (c1 : c ≤ 1000000) (i0 : 0 ≤ i) (i1 : i ≤ 1000000000) (j0 : 0 ≤ j) (j1 : j ≤ 1000000000) (hn : (Builtin.Range.rangeSize i j c).toNat = N) : srcf .rng [.int i, .int j, .int c] = some ((List.range N).map fun k => D.int (i + (k : Nat) * c)) := by
  show rng3f i j c = _
  unfold rng3f
  have rs : 0 ≤ Builtin.Range.rangeSize i j c ∧ Builtin.Range.rangeSize i j c ≤ 1000000001 := by
    unfold Builtin.Range.rangeSize
    rw [if_pos (by omega)]
    split
    · have a : (j - i - 1) / c ≤ j - i - 1 := Int.ediv_le_self _ (by omega)
      have b : 0 ≤ (j - i - 1) / c := Int.ediv_nonneg (by omega) (by omega)
      omega
    · omega
  have fl : ∀ i : Int, -2000000000 ≤ i → i ≤ 2000000000 → Builtin.Range.rangeFitsLong i = true := fun i h1 h2 => by
    unfold Builtin.Range.rangeFitsLong
    simp only [Bool.and_eq_true, decide_eq_true_eq]
    omega
  have sm : Builtin.Range.small i j c = true := by
    unfold Builtin.Range.small
    rw [fl i (by omega) (by omega), fl j (by omega) (by omega), fl c (by omega) (by omega), fl _ (by omega) (by omega), if_pos (by omega), fl (j + (c - 1)) (by omega) (by omega)]
    simp
  rw [if_pos ⟨⟨by omega, by omega⟩, by omega, by omega, sm⟩, hn]
def fst0 (b o : Int) : Nat := (-((-b).fdiv o)).toNat
def ldN (b e o : Int) : Nat := (e / o - (fst0 b o : Nat)).toNat
def ldD (b e o : Int) : List D := (List.range (ldN b e o)).map fun i => D.int (((fst0 b o + i : Nat) : Int) * o)
theorem fst0_eq {b o : Int} (b0 : 0 ≤ b) (o0 : 0 < o) : ((fst0 b o : Nat) : Int) = -((-b).fdiv o) ∧ b ≤ (fst0 b o : Nat) * o ∧ (fst0 b o : Nat) * o < b + o ∧ b + (0 - b).fmod o = (fst0 b o : Nat) * o := by
  have d : (-b).fdiv o = (-b) / o := Int.fdiv_eq_ediv_of_nonneg _ (by omega)
  have m : (0 - b).fmod o = (-b) % o := by rw [Int.zero_sub]; exact Int.fmod_eq_emod_of_nonneg _ (by omega)
  have r0 := Int.emod_nonneg (-b) (show o ≠ 0 by omega)
  have r1 := Int.emod_lt_of_pos (-b) o0
  have r2 := Int.mul_ediv_add_emod (-b) o
  have q : (-b) / o ≤ 0 := by
    rcases Int.lt_or_le 0 ((-b) / o) with h | h
    · have : o * 1 ≤ o * ((-b) / o) := Int.mul_le_mul_of_nonneg_left (by omega) (by omega)
      omega
    · exact h
  have e : ((fst0 b o : Nat) : Int) = -((-b).fdiv o) := by unfold fst0; rw [d]; omega
  refine ⟨e, ?_, ?_, ?_⟩ <;> rw [e, d, Int.neg_mul, Int.mul_comm] <;> (try rw [m]) <;> omega
theorem ldN_mx {b e o : Int} (b0 : 0 ≤ b) (o0 : 0 < o) (e0 : 0 ≤ e) : (mx ((fst0 b o : Nat) : Int) (e.fdiv o) - (fst0 b o : Nat)).toNat = ldN b e o := by
  have d : e.fdiv o = e / o := Int.fdiv_eq_ediv_of_nonneg _ (by omega)
  unfold ldN mx
  rw [d]
  split <;> omega
theorem body10 (hi : isI Φ) {b e o : Int} (b0 : 0 ≤ b) (b1 : b ≤ 100000) (e0 : 0 ≤ e) (e1 : e ≤ 100000) (o0 : 1 ≤ o) (o1 : o ≤ 100000) : runD Φ D10 [.int b, .int e, .int o] = .ok (.val (.tup (ldD b e o)), []) := by
  obtain ⟨f0, f1, f2, f3⟩ := fst0_eq b0 (show 0 < o by omega)
  have fu : (fst0 b o : Nat) * o < b + o := f2
  have fs : ((fst0 b o : Nat) : Int) ≤ 200000 := by
    have : ((fst0 b o : Nat) : Int) * 1 ≤ (fst0 b o : Nat) * o := Int.mul_le_mul_of_nonneg_left o0 (by omega)
    omega
  have lm := ldN_mx (e := e) b0 (show 0 < o by omega) e0
  have dE : e.fdiv o ≤ 100000 ∧ 0 ≤ e.fdiv o := by
    rw [Int.fdiv_eq_ediv_of_nonneg _ (by omega)]
    exact ⟨Int.le_trans (Int.ediv_le_self _ e0) e1, Int.ediv_nonneg e0 (by omega)⟩
  have mb : 0 ≤ mx ((fst0 b o : Nat) : Int) (e.fdiv o) ∧ mx ((fst0 b o : Nat) : Int) (e.fdiv o) ≤ 200000 := by unfold mx; split <;> omega
  have lb : ldN b e o ≤ 100000 := by rw [← lm]; unfold mx; split <;> omega
  obtain ⟨ρ', g1, u4, u5, g2⟩ := for_ty (Φ := Φ) (t := .tup [(.name 4 false), (.name 5 false)]) (k := .it) (src := [(.mk .tup [(.mk .tup [(.lit (.str "begin")), (.var 0)]), (.mk .tup [(.lit (.str "end")), (.var 1)])])]) (b := BD10_0) (ρ := [.val (.int b), .val (.int e), .val (.int o), .emp, .emp, .emp, .emp]) (ρ1 := [.val (.int b), .val (.int e), .val (.int o), .emp, .emp, .emp, .emp]) (ds := [.tup [.tup [.str "begin", .int b], .tup [.str "end", .int e]]]) [(("begin" : Str), b), ("end", e)] (fun p => D.tup [.str p.1, .int p.2])
    (fun _ ρ => ∃ t4 t5, ρ = [.val (.int b), .val (.int e), .val (.int o), .emp, t4, t5, .emp]) (by simp) rfl (fun pre p post ρ hp ⟨t4, t5, hρ⟩ => by
      subst hρ
      have hb : 0 ≤ p.2 ∧ p.2 ≤ 100000 := by
        have : p ∈ [(("begin" : Str), b), ("end", e)] := by rw [hp]; simp
        simp at this
        rcases this with rfl | rfl
        · exact ⟨b0, b1⟩
        · exact ⟨e0, e1⟩
      refine ⟨[.val (.int b), .val (.int e), .val (.int o), .emp, .val (.str p.1), .val (.int p.2), .emp], [.val (.int b), .val (.int e), .val (.int o), .emp, .val (.str p.1), .val (.int p.2), .emp], rfl, .inl ?_, _, _, rfl⟩
      simp [BD10_0, hi p.2, hb.1, hb.2]) ⟨.emp, .emp, rfl⟩
  subst g2
  have g1' : evS Φ FR10_0 _ = _ := g1
  have dv1 := bin_div (i := -b) (j := o) (divOk_of' (by omega) (by omega))
  have dv2 := bin_div (i := e) (j := o) (divOk_of' (by omega) (by omega))
  have mxo : opf .max [.int ((fst0 b o : Nat) : Int), .int (e.fdiv o)] = some (.val (.int (mx ((fst0 b o : Nat) : Int) (e.fdiv o)))) := opf_max2
  have ml := fun x : Int => bin_mul (i := x) (j := o) (mulOk_r (smallI_of' (by omega)))
  have e2 := lc_ty0S (Φ := Φ) (vs := [6]) (t := .name 6 false) (k := .rng) (src := [(.var 3), (.op .max [(.var 3), (.op (.bin .FloorDiv) [(.var 1), (.var 2)])])]) (elt := EL10_1) (ρ := [.val (.int b), .val (.int e), .val (.int o), .val (.int ((fst0 b o : Nat) : Int)), u4, u5, .emp]) [.int ((fst0 b o : Nat) : Int), .int (mx ((fst0 b o : Nat) : Int) (e.fdiv o))] (List.range (ldN b e o)) (fun i => D.int ((fst0 b o + i : Nat) : Int)) (fun i => D.int (((fst0 b o + i : Nat) : Int) * o)) (by
      generalize mx ((fst0 b o : Nat) : Int) (e.fdiv o) = m at *
      generalize ((fst0 b o : Nat) : Int) = f at *
      simp [dv2, mxo, -opf_max2]) (by
      refine (rngN2 (a := fst0 b o) rfl (by omega) (by omega)).trans ?_
      rw [lm]) rfl rfl
    (fun i _ => ⟨[.val (.int b), .val (.int e), .val (.int o), .val (.int ((fst0 b o : Nat) : Int)), u4, u5, .val (.int ((fst0 b o + i : Nat) : Int))], rfl, by
      have := ml ((fst0 b o + i : Nat) : Int)
      generalize ((fst0 b o + i : Nat) : Int) = y at *
      simp [EL10_1, this], rfl⟩) (by rw [List.length_range]; show _ ≤ 16777216; omega)
  have e2' : ev Φ LC10_1 _ = _ := e2
  have ee : (List.range (ldN b e o)).map (fun i => D.int (((fst0 b o + i : Nat) : Int) * o)) = ldD b e o := rfl
  rw [ee, f0] at e2'
  generalize ldD b e o = L at *
  have fin : evSs Φ n10 [.val (.int b), .val (.int e), .val (.int o), .emp, .emp, .emp, .emp] = .ok (.rt (.val (.tup L)) [.val (.int b), .val (.int e), .val (.int o), .val (.int (-((-b).fdiv o))), u4, u5, .emp]) := by
    generalize (-b).fdiv o = q at *
    simp [n10, g1', hi o, o0, o1, dv1, e2']
  exact runD_rt (d := D10) (ds := [.int b, .int e, .int o]) rfl fin rfl rfl
end W
namespace W
open PySem DL L2
variable {k : Nat} {Φ : Nat → Fn}
/-! ## what is drawn -/
def tT (v : Int) : D := .tup [.int v, .bl true]
theorem body19 (dw : Draws Φ) {st : D} (hs : IsSt st) {m : Int} (m0 : 1 ≤ m) (m1 : m ≤ 20) {top : Int} (t0 : 1 ≤ top) (t1 : top ≤ 100001) : ∃ (S : List Stp) (st' : D), runD Φ D19 [st, .int m, .int top] = .ok (.val (.tup (sd S)), [st']) ∧ Sps S ∧ IsSt st' := by
  obtain ⟨vs, ρ', f1, ⟨st1, hρ, hs1⟩, f3, f4⟩ := lc_ex (Φ := Φ) (vs := [5]) (t := .name 5 false) (k := .rng) (src := [.var 1]) (elt := EL19_0) (ρ := [.io st, .val (.int m), .val (.int top), .emp, .emp, .emp]) (ρ1 := [.io st, .val (.int m), .val (.int top), .emp, .emp, .emp]) (ds := [.int m]) (List.range m.toNat) (fun (i : Nat) => D.int i) tT
    (fun ρ => ∃ st, ρ = [.io st, .val (.int m), .val (.int top), .emp, .emp, .emp] ∧ IsSt st) (fun v => 0 ≤ v ∧ v < top) rfl (rngN (by omega)) rfl
    (fun i hi ρ ⟨st, hρ, hs⟩ => by
      subst hρ
      obtain ⟨w, st', e, w0, w1, hs'⟩ := dw.dr st top (by omega) (by omega) hs
      refine ⟨_, w, [.io st', .val (.int m), .val (.int top), .emp, .emp, .val (.int i)], rfl, ?_, ⟨w0, w1⟩, st', rfl, hs'⟩
      simp [EL19_0, e, tT]) ⟨st, rfl, hs⟩ (by rw [List.length_range]; show _ ≤ 16777216; omega)
  subst hρ
  rw [List.length_range] at f4
  have f1' : ev Φ LC19_0 _ = .ok (.own (.lst (vs.map tT)), [.io st1, .val (.int m), .val (.int top), .emp, .emp, .emp]) := f1
  obtain ⟨dc, xs, so, up, xm, x0, x1⟩ := sort_T (l := vs) (by intro h; rw [h] at f4; simp at f4; omega) (by omega)
  have dc' : opf .dict [.lst (vs.map tT)] = _ := dc
  obtain ⟨S, ρ', h1, ⟨st2, hρ, hs2⟩, h3, h4⟩ := lc_pi (Φ := Φ) (vs := [4]) (t := .name 4 false) (k := .it) (src := [.var 3]) (elt := EL19_1) (ρ := [.io st1, .val (.int m), .val (.int top), .val (.lst (xs.map .int)), .emp, .emp]) (ρ1 := [.io st1, .val (.int m), .val (.int top), .val (.lst (xs.map .int)), .emp, .emp]) (ds := [.lst (xs.map .int)]) xs D.int Stp.d Stp.p
    (fun ρ => ∃ st, ρ = [.io st, .val (.int m), .val (.int top), .val (.lst (xs.map .int)), .emp, .emp] ∧ IsSt st) (fun _ => True) rfl rfl rfl
    (fun x hx ρ ⟨st, hρ, hs⟩ => by
      subst hρ
      obtain ⟨y, st', e, hy, hs'⟩ := dw.pk st [.str "left", .str "right", .str "middle", .str "sign"] (by simp) (by simp) hs
      obtain ⟨w, rfl⟩ : ∃ w : Wy, y = .str w.s := by
        simp at hy
        rcases hy with rfl | rfl | rfl | rfl
        · exact ⟨.lf, rfl⟩
        · exact ⟨.rt, rfl⟩
        · exact ⟨.md, rfl⟩
        · exact ⟨.sg, rfl⟩
      refine ⟨_, ⟨x, w⟩, [.io st', .val (.int m), .val (.int top), .val (.lst (xs.map .int)), .val (.int x), .emp], rfl, ?_, trivial, rfl, st', rfl, hs'⟩
      unfold Stp.d
      generalize xs.map D.int = X
      generalize w.s = ws at *
      simp [EL19_1, e]) ⟨st1, rfl, hs1⟩ (by show _ ≤ 16777216; omega)
  subst hρ
  have h1' : ev Φ LC19_1 _ = .ok (.own (.lst (sd S)), [.io st2, .val (.int m), .val (.int top), .val (.lst (xs.map .int)), .emp, .emp]) := h1
  have sl : S.length = xs.length := by rw [← h4, List.length_map]
  refine ⟨S, st2, ?_, ⟨by omega, by omega, ?_, fun s hs => ?_, fun s hs => ?_⟩, hs2⟩
  · generalize vs.map tT = T at *
    generalize (vs.foldl insI []).map kT = K at *
    generalize xs.map D.int = X at *
    generalize sd S = A at *
    have fin : evSs Φ n19 [.io st, .val (.int m), .val (.int top), .emp, .emp, .emp] = .ok (.rt (.val (.tup A)) [.io st2, .val (.int m), .val (.int top), .val (.lst X), .emp, .emp]) := by
      simp [n19, f1', dc', so, h1']
    exact runD_rt (d := D19) (ds := [st, .int m, .int top]) rfl fin rfl rfl
  · rw [← h4, List.pairwise_map] at up; exact up
  · exact (f3 _ (xm _ (by rw [← h4]; exact List.mem_map.mpr ⟨s, hs, rfl⟩))).1
  · have := (f3 _ (xm _ (by rw [← h4]; exact List.mem_map.mpr ⟨s, hs, rfl⟩))).2
    omega
theorem body20 (dw : Draws Φ) {st : D} (hs : IsSt st) {m : Int} (m0 : 0 ≤ m) (m1 : m ≤ 20) {top : Int} (t0 : 1 ≤ top) (t1 : top ≤ 100001) : ∃ (F : List Fld) (st' : D), runD Φ D20 [st, .int m, .int top] = .ok (.val (.tup (fd F)), [st']) ∧ Fds F ∧ IsSt st' := by
  obtain ⟨n, st0, e0, n0, n1, hs0⟩ := dw.dr st (m + 1) (by omega) (by omega) hs
  obtain ⟨vs, ρ', f1, ⟨st1, hρ, hs1⟩, f3, f4⟩ := lc_ex (Φ := Φ) (vs := [4]) (t := .name 4 false) (k := .rng) (src := [(.call 12 [true, false] [(.var 0), (.op (.bin .Add) [(.var 1), (.lit (.int 1))])])]) (elt := EL20_0) (ρ := [.io st, .val (.int m), .val (.int top), .emp, .emp, .emp]) (ρ1 := [.io st0, .val (.int m), .val (.int top), .emp, .emp, .emp]) (ds := [.int n]) (List.range n.toNat) (fun (i : Nat) => D.int i) D.int
    (fun ρ => ∃ st, ρ = [.io st, .val (.int m), .val (.int top), .emp, .emp, .emp] ∧ IsSt st) (fun v => 0 ≤ v ∧ v < top) (by simp [e0]) (rngN (by omega)) rfl
    (fun i hi ρ ⟨st, hρ, hs⟩ => by
      subst hρ
      obtain ⟨w, st', e, w0, w1, hs'⟩ := dw.dr st top (by omega) (by omega) hs
      refine ⟨_, w, [.io st', .val (.int m), .val (.int top), .emp, .val (.int i), .emp], rfl, ?_, ⟨w0, w1⟩, st', rfl, hs'⟩
      simp [EL20_0, e]) ⟨st0, rfl, hs0⟩ (by rw [List.length_range]; show _ ≤ 16777216; omega)
  subst hρ
  rw [List.length_range] at f4
  have f1' : ev Φ LC20_0 _ = .ok (.own (.lst (vs.map .int)), [.io st1, .val (.int m), .val (.int top), .emp, .emp, .emp]) := f1
  obtain ⟨F, ρ', h1, ⟨st2, hρ, hs2⟩, h3, h4⟩ := lc_ex (Φ := Φ) (vs := [5]) (t := .name 5 false) (k := .it) (src := [.var 3]) (elt := EL20_1) (ρ := [.io st1, .val (.int m), .val (.int top), .val (.lst (vs.map .int)), .emp, .emp]) (ρ1 := [.io st1, .val (.int m), .val (.int top), .val (.lst (vs.map .int)), .emp, .emp]) (ds := [.lst (vs.map .int)]) vs D.int Fld.d
    (fun ρ => ∃ st, ρ = [.io st, .val (.int m), .val (.int top), .val (.lst (vs.map .int)), .emp, .emp] ∧ IsSt st) (fun f => 0 ≤ f.a ∧ f.a ≤ f.w ∧ f.w ≤ 100000) rfl rfl rfl
    (fun x hx ρ ⟨st, hρ, hs⟩ => by
      subst hρ
      obtain ⟨b0, b1⟩ := f3 x hx
      obtain ⟨a, st', e, a0, a1, hs'⟩ := dw.dr st (x + 1) (by omega) (by omega) hs
      refine ⟨_, ⟨x, a⟩, [.io st', .val (.int m), .val (.int top), .val (.lst (vs.map .int)), .emp, .val (.int x)], rfl, ?_, ⟨a0, by show a ≤ x; omega, by show x ≤ 100000; omega⟩, st', rfl, hs'⟩
      unfold Fld.d
      generalize vs.map D.int = X
      simp [EL20_1, e]) ⟨st1, rfl, hs1⟩ (by show _ ≤ 16777216; omega)
  subst hρ
  have h1' : ev Φ LC20_1 _ = .ok (.own (.lst (fd F)), [.io st2, .val (.int m), .val (.int top), .val (.lst (vs.map .int)), .emp, .emp]) := h1
  refine ⟨F, st2, ?_, ⟨by omega, fun f hf => (h3 f hf).1, fun f hf => (h3 f hf).2.1, fun f hf => (h3 f hf).2.2⟩, hs2⟩
  generalize vs.map D.int = X at *
  generalize fd F = A at *
  have fin : evSs Φ n20 [.io st, .val (.int m), .val (.int top), .emp, .emp, .emp] = .ok (.rt (.val (.tup A)) [.io st2, .val (.int m), .val (.int top), .val (.lst X), .emp, .emp]) := by
    simp [n20, f1', h1']
  exact runD_rt (d := D20) (ds := [st, .int m, .int top]) rfl fin rfl rfl
/-! ## a table is clean at its least stops -/
end W
namespace W
open PySem DL L2
variable {k : Nat} {Φ : Nat → Fn} {B : Int} {N : Nat}
/-! ## any data read as rows of widths -/
def rowsT (xs : List D) : Bool := decide (1 ≤ xs.length) && decide (xs.length ≤ 20) && xs.all D.isT
def rowM (xs : List D) : Nat := (xs.headD .non).its.length
def rowsM (xs : List D) : Bool := decide (1 ≤ rowM xs) && decide (rowM xs ≤ 20) && xs.all fun r => decide (r.its.length = rowM xs)
def rowsW (xs : List D) : Bool := xs.all fun r => r.its.all (D.inR 0 5000)
def rowsOk : D → Bool
  | .tup xs => rowsT xs && rowsM xs && rowsW xs
  | _ => false
def toI : D → Int
  | .int i => i
  | _ => 0
theorem all_map {α : Type} {xs : List α} {f : α → Bool} : opf .all [.lst (xs.map fun x => D.bl (f x))] = some (.val (.bl (xs.all f))) := by
  have h : blsD (xs.map fun x => D.bl (f x)) = some (xs.map f) := by
    induction xs with
    | nil => rfl
    | cons x xs ih =>
      show (blsD (xs.map fun x => D.bl (f x))).map (f x :: ·) = _
      rw [ih]; rfl
  show DL.b1 ((blsD (xs.map fun x => D.bl (f x))).map fun bs => bs.all id) = _
  rw [h]
  show some (Slot.val (D.bl ((xs.map f).all id))) = _
  rw [List.all_map]
  rfl
theorem its_ints {d : D} (ht : d.isT = true) (h : d.its.all (D.inR 0 5000) = true) : ∃ r : List Int, d = rI r ∧ r.length = d.its.length ∧ ∀ x ∈ r, 0 ≤ x ∧ x ≤ 5000 := by
  obtain ⟨xs, rfl⟩ := isT_eq ht
  have h' : ∀ x ∈ xs, x.inR 0 5000 = true := List.all_eq_true.mp h
  refine ⟨xs.map toI, ?_, by simp [D.its], fun x hx => ?_⟩
  · show D.tup xs = D.tup ((xs.map toI).map D.int)
    congr 1
    rw [List.map_map]
    conv => lhs; rw [← List.map_id xs]
    refine List.map_congr_left fun x hx => ?_
    obtain ⟨i, rfl, _⟩ := inR_eq (h' x hx)
    rfl
  · obtain ⟨y, hy, rfl⟩ := List.mem_map.mp hx
    obtain ⟨i, rfl, h1, h2⟩ := inR_eq (h' y hy)
    exact ⟨h1, h2⟩
theorem rowsOk_eq {d : D} (h : rowsOk d = true) : ∃ V m, d = .tup (wdD V) ∧ Wr V m := by
  cases d with
  | tup xs =>
    have h0 : (rowsT xs && rowsM xs && rowsW xs) = true := h
    unfold rowsT rowsM rowsW at h0
    simp only [Bool.and_eq_true, decide_eq_true_eq] at h0
    obtain ⟨⟨⟨⟨h1, h2⟩, h3⟩, ⟨h4, h5⟩, h6⟩, h7⟩ := h0
    have h3' := List.all_eq_true.mp h3
    have h6' := List.all_eq_true.mp h6
    have h7' := List.all_eq_true.mp h7
    have ex : ∀ (ys : List D), (∀ y ∈ ys, y ∈ xs) → ∃ V : List (List Int), ys = wdD V ∧ V.length = ys.length ∧ ∀ r ∈ V, r.length = rowM xs ∧ ∀ x ∈ r, 0 ≤ x ∧ x ≤ 5000 := by
      intro ys
      induction ys with
      | nil => intro _; exact ⟨[], rfl, rfl, fun r hr => by cases hr⟩
      | cons y ys ih =>
        intro hm
        obtain ⟨V, e1, e2, e3⟩ := ih fun z hz => hm z (List.mem_cons_of_mem _ hz)
        have hy := hm y List.mem_cons_self
        obtain ⟨r, q1, q2, q3⟩ := its_ints (h3' y hy) (h7' y hy)
        have q4 : y.its.length = rowM xs := by simpa using h6' y hy
        refine ⟨r :: V, by rw [e1, q1]; rfl, by simp [e2], fun z hz => ?_⟩
        rcases List.mem_cons.mp hz with rfl | hz
        · exact ⟨by rw [q2, q4], q3⟩
        · exact e3 z hz
    obtain ⟨V, e1, e2, e3⟩ := ex xs fun y hy => hy
    exact ⟨V, rowM xs, by rw [← e1], by omega, by omega, fun r hr => (e3 r hr).1, h4, h5, fun r hr => (e3 r hr).2⟩
  | _ => cases h
theorem isT_len {d : D} (h : d.isT = true) : opf .len [d] = some (.val (.int (d.its.length : Nat))) := by
  obtain ⟨xs, rfl⟩ := isT_eq h
  rfl
/-- what stands in rows is any data -/
theorem ls_bad (hi : aI Φ) {d g : D} (h : Ab B N d) (hN : N ≤ 16777216) (hb : rowsOk d = false) : runD Φ D8 [d, g] = .exc "ArgumentError" (.str "rows") [] := by
  have t1 := h.isi_tup
  have kx : okX (.str "rows") = true := by decide
  cases ht : d.isT with
  | false =>
    rw [ht] at t1
    refine runD_exc (d := D8) (ds := [d, g]) (ρ := [.val d, .val g, .emp, .emp, .emp, .emp, .emp]) rfl ?_ rfl
    simp [D8, n8, t1, kx]
  | true =>
    obtain ⟨xs, rfl⟩ := isT_eq ht
    rw [ht] at t1
    have hb' : (rowsT xs && rowsM xs && rowsW xs) = false := hb
    have hl := h.len
    have ln : opf .len [.tup xs] = some (.val (.int (xs.length : Nat))) := rfl
    by_cases h1 : 1 ≤ xs.length
    · by_cases h2 : xs.length ≤ 20
      · have a1 : (1 : Int) ≤ (xs.length : Nat) := by omega
        have a2 : ((xs.length : Nat) : Int) ≤ 20 := by omega
        have e0 := lc_ty0S (Φ := Φ) (vs := [3]) (t := .name 3 false) (k := .it) (src := [.var 0]) (elt := EL8_0) (ρ := [.val (.tup xs), .val g, .emp, .emp, .emp, .emp, .emp]) [.tup xs] xs id (fun x => D.bl x.isT) rfl (by simp [srcf]) rfl rfl
          (fun x hx => ⟨[.val (.tup xs), .val g, .emp, .val x, .emp, .emp, .emp], rfl, by
            have := (h.item hx).isi_tup
            generalize D.tup xs = A
            simp [EL8_0, this], rfl⟩) (by show _ ≤ 16777216; omega)
        have e0' : ev Φ LC8_0 _ = _ := e0
        have al := all_map (xs := xs) (f := D.isT)
        cases hT : xs.all D.isT with
        | false =>
          rw [hT] at al
          refine runD_exc (d := D8) (ds := [.tup xs, g]) (ρ := [.val (.tup xs), .val g, .emp, .emp, .emp, .emp, .emp]) rfl ?_ rfl
          generalize (xs.map fun x => D.bl x.isT) = LB at *
          generalize D.tup xs = A at *
          simp [D8, n8, t1, kx, ln, a1, a2, e0', al]
        | true =>
          rw [hT] at al
          have hT' := List.all_eq_true.mp hT
          obtain ⟨x0, ys, rfl⟩ : ∃ x0 ys, xs = x0 :: ys := by
            cases xs with
            | nil => simp at h1
            | cons a b => exact ⟨a, b, rfl⟩
          have ix0 : opf .ix [.tup (x0 :: ys), .int 0] = some (.val x0) := by rw [opf_ixT, atI_0]; rfl
          have l0 := isT_len (hT' x0 List.mem_cons_self)
          have hm : rowM (x0 :: ys) = x0.its.length := rfl
          rw [← hm] at l0
          by_cases m1 : 1 ≤ rowM (x0 :: ys)
          · by_cases m2 : rowM (x0 :: ys) ≤ 20
            · have b1 : (1 : Int) ≤ (rowM (x0 :: ys) : Nat) := by omega
              have b2 : ((rowM (x0 :: ys) : Nat) : Int) ≤ 20 := by omega
              have e1 := lc_ty0S (Φ := Φ) (vs := [3]) (t := .name 3 false) (k := .it) (src := [.var 0]) (elt := EL8_1) (ρ := [.val (.tup (x0 :: ys)), .val g, .val (.int (rowM (x0 :: ys) : Nat)), .emp, .emp, .emp, .emp]) [.tup (x0 :: ys)] (x0 :: ys) id (fun x => D.bl (decide (x.its.length = rowM (x0 :: ys)))) rfl (by simp [srcf]) rfl rfl
                (fun x hx => ⟨[.val (.tup (x0 :: ys)), .val g, .val (.int (rowM (x0 :: ys) : Nat)), .val x, .emp, .emp, .emp], rfl, by
                  have lx := isT_len (hT' x hx)
                  have ce : (decide (((x.its.length : Nat) : Int) = ((rowM (x0 :: ys) : Nat) : Int))) = decide (x.its.length = rowM (x0 :: ys)) := by
                    by_cases z : x.its.length = rowM (x0 :: ys)
                    · rw [decide_eq_true z, decide_eq_true (by omega)]
                    · rw [decide_eq_false z, decide_eq_false (by omega)]
                  rw [← ce]
                  generalize D.tup (x0 :: ys) = A
                  generalize ((rowM (x0 :: ys) : Nat) : Int) = mi
                  simp [EL8_1, lx], rfl⟩) (by show _ ≤ 16777216; omega)
              have e1' : ev Φ LC8_1 _ = _ := e1
              have al1 := all_map (xs := x0 :: ys) (f := fun x => decide (x.its.length = rowM (x0 :: ys)))
              cases hM : (x0 :: ys).all (fun x => decide (x.its.length = rowM (x0 :: ys))) with
              | false =>
                rw [hM] at al1
                refine runD_exc (d := D8) (ds := [.tup (x0 :: ys), g]) (ρ := [.val (.tup (x0 :: ys)), .val g, .val (.int (rowM (x0 :: ys) : Nat)), .emp, .emp, .emp, .emp]) rfl ?_ rfl
                generalize ((x0 :: ys).map fun x => D.bl x.isT) = LB at *
                generalize ((x0 :: ys).map fun x => D.bl (decide (x.its.length = rowM (x0 :: ys)))) = LM at *
                generalize ((rowM (x0 :: ys) : Nat) : Int) = mi at *
                generalize (((x0 :: ys).length : Nat) : Int) = li at *
                generalize D.tup (x0 :: ys) = A at *
                simp [D8, n8, t1, kx, ln, a1, a2, e0', al, ix0, l0, b1, b2, e1', al1]
              | true =>
                rw [hM] at al1
                have hW : rowsW (x0 :: ys) = false := by
                  have q1 : rowsT (x0 :: ys) = true := by unfold rowsT; rw [hT, decide_eq_true h1, decide_eq_true h2]; rfl
                  have q2 : rowsM (x0 :: ys) = true := by unfold rowsM; rw [hM, decide_eq_true m1, decide_eq_true m2]; rfl
                  rw [q1, q2] at hb'
                  exact hb'
                have fr := for_ck (Φ := Φ) (t := .name 3 false) (k := .it) (src := [.var 0]) (b := BD8_3) (ρ := [.val (.tup (x0 :: ys)), .val g, .val (.int (rowM (x0 :: ys) : Nat)), .emp, .emp, .emp, .emp]) (ρ1 := [.val (.tup (x0 :: ys)), .val g, .val (.int (rowM (x0 :: ys) : Nat)), .emp, .emp, .emp, .emp]) (ds := [.tup (x0 :: ys)]) (xs := x0 :: ys)
                  (fun (_ : Unit) ρ => ∃ t3, ρ = [.val (.tup (x0 :: ys)), .val g, .val (.int (rowM (x0 :: ys) : Nat)), t3, .emp, .emp, .emp]) (fun _ x => if x.its.all (D.inR 0 5000) then some () else none)
                  (fun r => ∃ t3, r = .exc "ArgumentError" (.str "rows") [.val (.tup (x0 :: ys)), .val g, .val (.int (rowM (x0 :: ys) : Nat)), t3, .emp, .emp, .emp]) () rfl rfl (fun r ⟨a, e⟩ => .inr ⟨_, _, _, e⟩) (fun x hx a ρ ⟨t3, hρ⟩ => by
                    subst hρ
                    refine ⟨[.val (.tup (x0 :: ys)), .val g, .val (.int (rowM (x0 :: ys) : Nat)), .val x, .emp, .emp, .emp], rfl, ?_⟩
                    obtain ⟨zs, rfl⟩ := isT_eq (hT' x hx)
                    have hz := h.item hx
                    have lz := hz.len
                    have e2 := lc_ty0S (Φ := Φ) (vs := [6]) (t := .name 6 false) (k := .it) (src := [.var 3]) (elt := EL8_2) (ρ := [.val (.tup (x0 :: ys)), .val g, .val (.int (rowM (x0 :: ys) : Nat)), .val (.tup zs), .emp, .emp, .emp]) [.tup zs] zs id (fun x => D.bl (x.inR 0 5000)) rfl (by simp [srcf]) rfl rfl
                      (fun w hw => ⟨[.val (.tup (x0 :: ys)), .val g, .val (.int (rowM (x0 :: ys) : Nat)), .val (.tup zs), .emp, .emp, .val w], rfl, by
                        have ab := hz.item hw
                        have iw := hi B N w ab
                        have dv := dv20
                        generalize D.tup (x0 :: ys) = A
                        generalize D.tup zs = Z
                        generalize ((rowM (x0 :: ys) : Nat) : Int) = mi
                        cases hn : w.isN with
                        | false =>
                          rw [hn] at iw
                          rw [inR_isN hn]
                          simp [EL8_2, iw]
                        | true =>
                          rw [hn] at iw
                          obtain ⟨i, rfl⟩ := isN_eq hn
                          show rel (ev Φ EL8_2 [.val A, .val g, .val (.int mi), .val Z, .emp, .emp, .val (.int i)]) = .ok (.bl (decide (0 ≤ i) && decide (i ≤ 5000)), _)
                          by_cases c1 : 0 ≤ i <;> by_cases c2 : i ≤ 5000 <;> simp [EL8_2, iw, dv, c1, c2], rfl⟩) (by show _ ≤ 16777216; omega)
                    have e2' : ev Φ LC8_2 _ = _ := e2
                    have al2 := all_map (xs := zs) (f := D.inR 0 5000)
                    rw [show (D.tup zs).its = zs from rfl]
                    cases hz2 : zs.all (D.inR 0 5000) with
                    | false =>
                      rw [hz2] at al2
                      refine ⟨.val (.tup zs), ?_⟩
                      generalize (zs.map fun x => D.bl (x.inR 0 5000)) = LW at *
                      generalize D.tup (x0 :: ys) = A at *
                      generalize D.tup zs = Z at *
                      generalize ((rowM (x0 :: ys) : Nat) : Int) = mi at *
                      simp [BD8_3, e2', al2, kx]
                    | true =>
                      rw [hz2] at al2
                      refine ⟨_, ?_, .val (.tup zs), rfl⟩
                      generalize (zs.map fun x => D.bl (x.inR 0 5000)) = LW at *
                      generalize D.tup (x0 :: ys) = A at *
                      generalize D.tup zs = Z at *
                      generalize ((rowM (x0 :: ys) : Nat) : Int) = mi at *
                      simp [BD8_3, e2', al2, kx]) ⟨.emp, rfl⟩
                have fn : (x0 :: ys).foldlM (fun (_ : Unit) x => if x.its.all (D.inR 0 5000) then some () else none) () = none := by
                  have gen : ∀ l : List D, (l.all fun r => r.its.all (D.inR 0 5000)) = false → l.foldlM (fun (_ : Unit) x => if x.its.all (D.inR 0 5000) then some () else none) () = none := by
                    intro l
                    induction l with
                    | nil => intro z; cases z
                    | cons a l ih =>
                      intro z
                      rw [List.foldlM_cons]
                      cases ha : a.its.all (D.inR 0 5000) with
                      | false => rfl
                      | true =>
                        rw [List.all_cons, ha, Bool.true_and] at z
                        exact ih z
                  exact gen _ hW
                rw [fn] at fr
                obtain ⟨t3, f1⟩ := fr
                have f1' : evS Φ FR8_3 _ = _ := f1
                refine runD_exc (d := D8) (ds := [.tup (x0 :: ys), g]) (ρ := [.val (.tup (x0 :: ys)), .val g, .val (.int (rowM (x0 :: ys) : Nat)), t3, .emp, .emp, .emp]) rfl ?_ rfl
                generalize ((x0 :: ys).map fun x => D.bl x.isT) = LB at *
                generalize ((x0 :: ys).map fun x => D.bl (decide (x.its.length = rowM (x0 :: ys)))) = LM at *
                generalize ((rowM (x0 :: ys) : Nat) : Int) = mi at *
                generalize (((x0 :: ys).length : Nat) : Int) = li at *
                generalize D.tup (x0 :: ys) = A at *
                simp [D8, n8, t1, kx, ln, a1, a2, e0', al, ix0, l0, b1, b2, e1', al1, f1']
            · have b1 : (1 : Int) ≤ (rowM (x0 :: ys) : Nat) := by omega
              have b2 : ¬ ((rowM (x0 :: ys) : Nat) : Int) ≤ 20 := by omega
              refine runD_exc (d := D8) (ds := [.tup (x0 :: ys), g]) (ρ := [.val (.tup (x0 :: ys)), .val g, .val (.int (rowM (x0 :: ys) : Nat)), .emp, .emp, .emp, .emp]) rfl ?_ rfl
              generalize ((x0 :: ys).map fun x => D.bl x.isT) = LB at *
              generalize ((rowM (x0 :: ys) : Nat) : Int) = mi at *
              generalize (((x0 :: ys).length : Nat) : Int) = li at *
              generalize D.tup (x0 :: ys) = A at *
              simp [D8, n8, t1, kx, ln, a1, a2, e0', al, ix0, l0, b1, b2]
          · have b1 : ¬ (1 : Int) ≤ (rowM (x0 :: ys) : Nat) := by omega
            refine runD_exc (d := D8) (ds := [.tup (x0 :: ys), g]) (ρ := [.val (.tup (x0 :: ys)), .val g, .val (.int (rowM (x0 :: ys) : Nat)), .emp, .emp, .emp, .emp]) rfl ?_ rfl
            generalize ((x0 :: ys).map fun x => D.bl x.isT) = LB at *
            generalize ((rowM (x0 :: ys) : Nat) : Int) = mi at *
            generalize (((x0 :: ys).length : Nat) : Int) = li at *
            generalize D.tup (x0 :: ys) = A at *
            simp [D8, n8, t1, kx, ln, a1, a2, e0', al, ix0, l0, b1]
      · have a1 : (1 : Int) ≤ (xs.length : Nat) := by omega
        have a2 : ¬ ((xs.length : Nat) : Int) ≤ 20 := by omega
        refine runD_exc (d := D8) (ds := [.tup xs, g]) (ρ := [.val (.tup xs), .val g, .emp, .emp, .emp, .emp, .emp]) rfl ?_ rfl
        generalize D.tup xs = A at *
        simp [D8, n8, t1, kx, ln, a1, a2]
    · have a1 : ¬ (1 : Int) ≤ (xs.length : Nat) := by omega
      refine runD_exc (d := D8) (ds := [.tup xs, g]) (ρ := [.val (.tup xs), .val g, .emp, .emp, .emp, .emp, .emp]) rfl ?_ rfl
      generalize D.tup xs = A at *
      simp [D8, n8, t1, kx, ln, a1]
end W
namespace W
open PySem DL L2
variable {k : Nat} {Φ : Nat → Fn} {B : Int} {N : Nat}
theorem aI.isI (hi : aI Φ) : isI Φ := fun i => hi (i.natAbs : Nat) 0 (.int i) (.int i (by omega) (by omega))
theorem ls_gap (hi : aI Φ) {V : List (List Int)} {m : Nat} (h : Wr V m) {g : D} (hg : Ab B N g) (hb : g.inR 1 100000 = false) : runD Φ D8 [.tup (wdD V), g] = .exc "ArgumentError" (.str "gap") [] := by
  have kx : okX (.str "gap") = true := by decide
  have m0 := h.m0
  have m1 := h.m1
  have n0 := h.n0
  have n1 := h.n1
  have hj := hi.isI
  obtain ⟨r0, hr0, ix0⟩ := wd_ix0 h
  have l0 : opf .len [rI r0] = some (.val (.int (m : Nat))) := by rw [rI_len, h.len r0 hr0]
  have e0 := lc_ty0S (Φ := Φ) (vs := [3]) (t := .name 3 false) (k := .it) (src := [.var 0]) (elt := EL8_0) (ρ := [.val (.tup (wdD V)), .val g, .emp, .emp, .emp, .emp, .emp]) [.tup (wdD V)] V rI (fun _ => D.bl true) rfl rfl rfl rfl
    (fun r hr => ⟨[.val (.tup (wdD V)), .val g, .emp, .val (rI r), .emp, .emp, .emp], rfl, by
      have := rI_tup (r := r)
      generalize rI r = X at *
      generalize wdD V = A
      simp [EL8_0, this], rfl⟩) (by show _ ≤ 16777216; omega)
  have e0' : ev Φ LC8_0 _ = _ := e0
  have e1 := lc_ty0S (Φ := Φ) (vs := [3]) (t := .name 3 false) (k := .it) (src := [.var 0]) (elt := EL8_1) (ρ := [.val (.tup (wdD V)), .val g, .val (.int (m : Nat)), .emp, .emp, .emp, .emp]) [.tup (wdD V)] V rI (fun _ => D.bl true) rfl rfl rfl rfl
    (fun r hr => ⟨[.val (.tup (wdD V)), .val g, .val (.int (m : Nat)), .val (rI r), .emp, .emp, .emp], rfl, by
      have := rI_len (r := r)
      rw [h.len r hr] at this
      generalize rI r = X at *
      generalize wdD V = A
      generalize (m : Int) = mi at *
      simp [EL8_1, this], rfl⟩) (by show _ ≤ 16777216; omega)
  have e1' : ev Φ LC8_1 _ = _ := e1
  have al := all_true (xs := V)
  obtain ⟨ρ', f1, t3, f2⟩ := for_ty (Φ := Φ) (t := .name 3 false) (k := .it) (src := [.var 0]) (b := BD8_3) (ρ := [.val (.tup (wdD V)), .val g, .val (.int (m : Nat)), .emp, .emp, .emp, .emp]) (ρ1 := [.val (.tup (wdD V)), .val g, .val (.int (m : Nat)), .emp, .emp, .emp, .emp]) (ds := [.tup (wdD V)]) V rI
    (fun _ ρ => ∃ d, ρ = [.val (.tup (wdD V)), .val g, .val (.int (m : Nat)), d, .emp, .emp, .emp]) rfl rfl (fun pre r post ρ hp ⟨d, hρ⟩ => by
      subst hρ
      have hr : r ∈ V := by rw [hp]; simp
      have e := lc_ty0S (Φ := Φ) (vs := [6]) (t := .name 6 false) (k := .it) (src := [.var 3]) (elt := EL8_2) (ρ := [.val (.tup (wdD V)), .val g, .val (.int (m : Nat)), .val (rI r), .emp, .emp, .emp]) [rI r] r D.int (fun _ => D.bl true) rfl rfl rfl rfl
        (fun x hx => ⟨[.val (.tup (wdD V)), .val g, .val (.int (m : Nat)), .val (rI r), .emp, .emp, .val (.int x)], rfl, by
          obtain ⟨b0, b1⟩ := h.b r hr x hx
          have dv := dv20
          generalize rI r = X at *
          generalize wdD V = A
          simp [EL8_2, hj x, b0, b1, dv], rfl⟩) (by rw [h.len r hr]; show _ ≤ 16777216; omega)
      have e' : ev Φ LC8_2 _ = _ := e
      have al := all_true (xs := r)
      refine ⟨[.val (.tup (wdD V)), .val g, .val (.int (m : Nat)), .val (rI r), .emp, .emp, .emp], [.val (.tup (wdD V)), .val g, .val (.int (m : Nat)), .val (rI r), .emp, .emp, .emp], rfl, .inl ?_, _, rfl⟩
      generalize (r.map fun _ => D.bl true) = B at *
      generalize rI r = X at *
      generalize wdD V = A at *
      simp [BD8_3, e', al]) ⟨.emp, rfl⟩
  subst f2
  have f1' : evS Φ FR8_3 _ = _ := f1
  have x1 : (1 : Int) ≤ (wdD V).length := by rw [wd_len]; omega
  have x2 : ((wdD V).length : Int) ≤ 20 := by rw [wd_len]; omega
  have y1 : (1 : Int) ≤ (m : Nat) := by omega
  have y2 : ((m : Nat) : Int) ≤ 20 := by omega
  have ig := hi _ _ g hg
  refine runD_exc (d := D8) (ds := [.tup (wdD V), g]) (ρ := [.val (.tup (wdD V)), .val g, .val (.int (m : Nat)), t3, .emp, .emp, .emp]) rfl ?_ rfl
  generalize (V.map fun _ => D.bl true) = LB at *
  generalize rI r0 = X at *
  generalize wdD V = A at *
  generalize ((m : Nat) : Int) = mi at *
  cases hn : g.isN with
  | false =>
    rw [hn] at ig
    simp [D8, n8, x1, x2, e0', al, ix0, l0, y1, y2, e1', f1', ig, kx]
  | true =>
    rw [hn] at ig
    obtain ⟨i, rfl⟩ := isN_eq hn
    have hb' : (decide (1 ≤ i) && decide (i ≤ 100000)) = false := hb
    by_cases c1 : 1 ≤ i
    · have c2 : ¬ i ≤ 100000 := fun z => by rw [decide_eq_true c1, decide_eq_true z] at hb'; cases hb'
      simp [D8, n8, x1, x2, e0', al, ix0, l0, y1, y2, e1', f1', ig, kx, c1, c2]
    · simp [D8, n8, x1, x2, e0', al, ix0, l0, y1, y2, e1', f1', ig, kx, c1]
/-! ## leaders of any data -/
theorem ld_step (hi : aI Φ) {d b e o s4 s5 : D} (h : Ab B N d) {n : Str} (kx : okX (.str n) = true) : evSs Φ BD10_0 [.val b, .val e, .val o, .emp, .val (.str n), .val d, .emp] =
    if d.inR 0 100000 then .ok (.nx [.val b, .val e, .val o, .emp, .val (.str n), .val d, .emp]) else .exc "ArgumentError" (.str n) [.val b, .val e, .val o, .emp, .val (.str n), .val d, .emp] := by
  have ig := hi _ _ d h
  cases hn : d.isN with
  | false =>
    rw [hn] at ig
    rw [inR_isN hn]
    simp [BD10_0, ig, kx]
  | true =>
    rw [hn] at ig
    obtain ⟨i, rfl⟩ := isN_eq hn
    have er : (D.int i).inR 0 100000 = (decide (0 ≤ i) && decide (i ≤ 100000)) := rfl
    rw [er]
    by_cases c1 : 0 ≤ i <;> by_cases c2 : i ≤ 100000 <;> simp [BD10_0, ig, kx, c1, c2]
theorem ld_loop (hi : aI Φ) {b e o : D} (hb : Ab B N b) (he : Ab B N e) : evS Φ FR10_0 [.val b, .val e, .val o, .emp, .emp, .emp, .emp] =
    if b.inR 0 100000 then (if e.inR 0 100000 then .ok (.nx [.val b, .val e, .val o, .emp, .val (.str "end"), .val e, .emp]) else .exc "ArgumentError" (.str "end") [.val b, .val e, .val o, .emp, .val (.str "end"), .val e, .emp])
    else .exc "ArgumentError" (.str "begin") [.val b, .val e, .val o, .emp, .val (.str "begin"), .val b, .emp] := by
  have s1 := ld_step (Φ := Φ) hi (b := b) (e := e) (o := o) (s4 := b) (s5 := b) hb (n := "begin") (by decide)
  have s2 := ld_step (Φ := Φ) hi (b := b) (e := e) (o := o) (s4 := b) (s5 := b) he (n := "end") (by decide)
  have fe : evS Φ FR10_0 [.val b, .val e, .val o, .emp, .emp, .emp, .emp] = forR _ [.tup [.str "begin", b], .tup [.str "end", e]] _ := for_eq (Φ := Φ) (t := .tup [(.name 4 false), (.name 5 false)]) (k := .it) (src := [(.mk .tup [(.mk .tup [(.lit (.str "begin")), (.var 0)]), (.mk .tup [(.lit (.str "end")), (.var 1)])])]) (b := BD10_0) (ρ := [.val b, .val e, .val o, .emp, .emp, .emp, .emp]) (ρ1 := [.val b, .val e, .val o, .emp, .emp, .emp, .emp]) (ds := [.tup [.tup [.str "begin", b], .tup [.str "end", e]]]) (by simp) rfl
  rw [fe]
  have a1 : assignT (.tup [(.name 4 false), (.name 5 false)]) (.val (.tup [.str "begin", b])) [.val b, .val e, .val o, .emp, .emp, .emp, .emp] = some [.val b, .val e, .val o, .emp, .val (.str "begin"), .val b, .emp] := rfl
  have a2 : assignT (.tup [(.name 4 false), (.name 5 false)]) (.val (.tup [.str "end", e])) [.val b, .val e, .val o, .emp, .val (.str "begin"), .val b, .emp] = some [.val b, .val e, .val o, .emp, .val (.str "end"), .val e, .emp] := rfl
  cases h1 : b.inR 0 100000 with
  | false =>
    rw [h1] at s1
    exact forR_exc (stepR (Φ := Φ) a1 s1)
  | true =>
    rw [h1] at s1
    rw [forR_nx (stepR (Φ := Φ) a1 s1)]
    cases h2 : e.inR 0 100000 with
    | false =>
      rw [h2] at s2
      exact forR_exc (stepR (Φ := Φ) a2 s2)
    | true =>
      rw [h2] at s2
      rw [forR_nx (stepR (Φ := Φ) a2 s2)]
      rfl
def ldBad (b e o : D) : Option Str := if b.inR 0 100000 = false then some "begin" else if e.inR 0 100000 = false then some "end" else if o.inR 1 100000 = false then some "own" else none
theorem ld_bad (hi : aI Φ) {b e o : D} (hb : Ab B N b) (he : Ab B N e) (ho : Ab B N o) {w : Str} (hw : ldBad b e o = some w) : runD Φ D10 [b, e, o] = .exc "ArgumentError" (.str w) [] := by
  have lp := ld_loop (Φ := Φ) hi (o := o) hb he
  have kx : okX (.str "own") = true := by decide
  unfold ldBad at hw
  cases h1 : b.inR 0 100000 with
  | false =>
    rw [h1] at lp hw
    cases hw
    refine runD_exc (d := D10) (ds := [b, e, o]) (ρ := [.val b, .val e, .val o, .emp, .val (.str "begin"), .val b, .emp]) rfl ?_ rfl
    simp only [Bool.false_eq_true, if_false] at lp
    simp [D10, n10, lp]
  | true =>
    rw [h1] at lp hw
    cases h2 : e.inR 0 100000 with
    | false =>
      rw [h2] at lp hw
      cases hw
      refine runD_exc (d := D10) (ds := [b, e, o]) (ρ := [.val b, .val e, .val o, .emp, .val (.str "end"), .val e, .emp]) rfl ?_ rfl
      simp only [Bool.false_eq_true, if_false, if_true] at lp
      simp [D10, n10, lp]
    | true =>
      rw [h2] at lp hw
      cases h3 : o.inR 1 100000 with
      | true => rw [h3] at hw; cases hw
      | false =>
        rw [h3] at hw
        cases hw
        refine runD_exc (d := D10) (ds := [b, e, o]) (ρ := [.val b, .val e, .val o, .emp, .val (.str "end"), .val e, .emp]) rfl ?_ rfl
        simp only [if_true] at lp
        have ig := hi _ _ o ho
        cases hn : o.isN with
        | false =>
          rw [hn] at ig
          simp [D10, n10, lp, ig, kx]
        | true =>
          rw [hn] at ig
          obtain ⟨i, rfl⟩ := isN_eq hn
          have hb' : (decide (1 ≤ i) && decide (i ≤ 100000)) = false := h3
          by_cases c1 : 1 ≤ i
          · have c2 : ¬ i ≤ 100000 := fun z => by rw [decide_eq_true c1, decide_eq_true z] at hb'; cases hb'
            simp [D10, n10, lp, ig, kx, c1, c2]
          · simp [D10, n10, lp, ig, kx, c1]
end W
namespace W
open PySem DL L2
variable {k : Nat} {Φ : Nat → Fn} {B : Int} {N : Nat}
theorem filter_none {α : Type} {xs : List α} {p : α → Bool} : (xs.filter p).isEmpty = xs.all fun x => !p x := by
  induction xs with
  | nil => rfl
  | cons x xs ih =>
    rw [List.filter_cons, List.all_cons]
    cases h : p x with
    | true => simp
    | false => simp [ih]
theorem abody27 (hw : aW Φ) {d : D} (h : Ab B N d) (hN : N ≤ 16777216) : runD Φ D27 [d] = .ok (.val (.bl (rowsOk d)), []) := by
  have t1 := h.isi_tup
  cases ht : d.isT with
  | false =>
    rw [ht] at t1
    have e : rowsOk d = false := by cases d <;> first | rfl | cases ht
    rw [e]
    refine runD_rt (d := D27) (ds := [d]) (ρ := [.val d, .emp, .emp]) (t := .val (.bl false)) rfl ?_ rfl rfl
    simp [D27, n27, t1]
  | true =>
    obtain ⟨xs, rfl⟩ := isT_eq ht
    rw [ht] at t1
    have hl := h.len
    have ln : opf .len [.tup xs] = some (.val (.int (xs.length : Nat))) := rfl
    show _ = R.ok (Slot.val (.bl (rowsT xs && rowsM xs && rowsW xs)), [])
    by_cases h1 : 1 ≤ xs.length
    · by_cases h2 : xs.length ≤ 20
      · have a1 : (1 : Int) ≤ (xs.length : Nat) := by omega
        have a2 : ((xs.length : Nat) : Int) ≤ 20 := by omega
        have e0 := lc_tyS (Φ := Φ) (vs := [1]) (t := .name 1 false) (k := .it) (src := [.var 0]) (ifs := IF27_0) (elt := EL27_0) (ρ := [.val (.tup xs), .emp, .emp]) [.tup xs] xs id (fun x => !x.isT) id rfl (by simp [srcf]) rfl rfl
          (fun x hx => by
            have := (h.item hx).isi_tup
            refine ⟨[.val (.tup xs), .val x, .emp], rfl, ?_, fun _ => ?_, rfl⟩
            · generalize D.tup xs = A
              cases hh : x.isT <;> rw [hh] at this <;> simp [IF27_0, this]
            · generalize D.tup xs = A
              simp [EL27_0]) (by show _ ≤ 16777216; omega)
        have e0' : ev Φ LC27_0 _ = _ := e0
        rw [List.map_id] at e0'
        have em := filter_none (xs := xs) (p := fun x => !x.isT)
        have em2 : (xs.all fun x => !!x.isT) = xs.all D.isT := by simp
        rw [em2] at em
        cases hT : xs.all D.isT with
        | false =>
          rw [hT] at em
          have er : rowsT xs = false := by unfold rowsT; rw [hT]; simp
          rw [er]
          refine runD_rt (d := D27) (ds := [.tup xs]) (ρ := [.val (.tup xs), .emp, .emp]) (t := .val (.bl false)) rfl ?_ rfl rfl
          generalize xs.filter (fun x => !x.isT) = FL at *
          generalize D.tup xs = A at *
          simp [D27, n27, t1, ln, a1, a2, e0', em]
        | true =>
          rw [hT] at em
          have er : rowsT xs = true := by unfold rowsT; rw [hT, decide_eq_true h1, decide_eq_true h2]; rfl
          rw [er]
          have hT' := List.all_eq_true.mp hT
          obtain ⟨x0, ys, rfl⟩ : ∃ x0 ys, xs = x0 :: ys := by
            cases xs with
            | nil => simp at h1
            | cons a b => exact ⟨a, b, rfl⟩
          have ix0 : opf .ix [.tup (x0 :: ys), .int 0] = some (.val x0) := by rw [opf_ixT, atI_0]; rfl
          have l0 := isT_len (hT' x0 List.mem_cons_self)
          have hm : rowM (x0 :: ys) = x0.its.length := rfl
          rw [← hm] at l0
          by_cases m1 : 1 ≤ rowM (x0 :: ys)
          · by_cases m2 : rowM (x0 :: ys) ≤ 20
            · have b1 : (1 : Int) ≤ (rowM (x0 :: ys) : Nat) := by omega
              have b2 : ((rowM (x0 :: ys) : Nat) : Int) ≤ 20 := by omega
              have e1 := lc_tyS (Φ := Φ) (vs := [1]) (t := .name 1 false) (k := .it) (src := [.var 0]) (ifs := IF27_1) (elt := EL27_1) (ρ := [.val (.tup (x0 :: ys)), .emp, .emp]) [.tup (x0 :: ys)] (x0 :: ys) id (fun x => !decide (x.its.length = rowM (x0 :: ys))) id rfl (by simp [srcf]) rfl rfl
                (fun x hx => by
                  have lx := isT_len (hT' x hx)
                  refine ⟨[.val (.tup (x0 :: ys)), .val x, .emp], rfl, ?_, fun _ => ?_, rfl⟩
                  · have ce : (decide (((x.its.length : Nat) : Int) = ((rowM (x0 :: ys) : Nat) : Int))) = decide (x.its.length = rowM (x0 :: ys)) := by
                      by_cases z : x.its.length = rowM (x0 :: ys)
                      · rw [decide_eq_true z, decide_eq_true (by omega)]
                      · rw [decide_eq_false z, decide_eq_false (by omega)]
                    rw [← ce]
                    generalize D.tup (x0 :: ys) = A at *
                    generalize ((rowM (x0 :: ys) : Nat) : Int) = mi at *
                    generalize ((x.its.length : Nat) : Int) = xi at *
                    by_cases z : xi = mi <;> simp [IF27_1, lx, ix0, l0, z]
                  · generalize D.tup (x0 :: ys) = A
                    simp [EL27_1]) (by show _ ≤ 16777216; omega)
              have e1' : ev Φ LC27_1 _ = _ := e1
              rw [List.map_id] at e1'
              have em1 := filter_none (xs := x0 :: ys) (p := fun x => !decide (x.its.length = rowM (x0 :: ys)))
              have em3 : ((x0 :: ys).all fun x => !!decide (x.its.length = rowM (x0 :: ys))) = (x0 :: ys).all fun x => decide (x.its.length = rowM (x0 :: ys)) := by simp
              rw [em3] at em1
              cases hM : (x0 :: ys).all (fun x => decide (x.its.length = rowM (x0 :: ys))) with
              | false =>
                rw [hM] at em1
                have er2 : rowsM (x0 :: ys) = false := by unfold rowsM; rw [hM]; simp
                rw [er2]
                refine runD_rt (d := D27) (ds := [.tup (x0 :: ys)]) (ρ := [.val (.tup (x0 :: ys)), .emp, .emp]) (t := .val (.bl false)) rfl ?_ rfl rfl
                generalize (x0 :: ys).filter (fun x => !x.isT) = FL at *
                generalize (x0 :: ys).filter (fun x => !decide (x.its.length = rowM (x0 :: ys))) = FM at *
                generalize ((rowM (x0 :: ys) : Nat) : Int) = mi at *
                generalize (((x0 :: ys).length : Nat) : Int) = li at *
                generalize D.tup (x0 :: ys) = A at *
                simp [D27, n27, t1, ln, a1, a2, e0', em, ix0, l0, b1, b2, e1', em1]
              | true =>
                rw [hM] at em1
                have er2 : rowsM (x0 :: ys) = true := by unfold rowsM; rw [hM, decide_eq_true m1, decide_eq_true m2]; rfl
                rw [er2]
                have e3 := lc_tyS (Φ := Φ) (vs := [1]) (t := .name 1 false) (k := .it) (src := [.var 0]) (ifs := IF27_3) (elt := EL27_3) (ρ := [.val (.tup (x0 :: ys)), .emp, .emp]) [.tup (x0 :: ys)] (x0 :: ys) id (fun x => !x.its.all (D.inR 0 5000)) id rfl (by simp [srcf]) rfl rfl
                  (fun x hx => by
                    obtain ⟨zs, rfl⟩ := isT_eq (hT' x hx)
                    have hz := h.item hx
                    have lz := hz.len
                    refine ⟨[.val (.tup (x0 :: ys)), .val (.tup zs), .emp], rfl, ?_, fun _ => ?_, rfl⟩
                    · have e2 := lc_tyS (Φ := Φ) (vs := [2]) (t := .name 2 false) (k := .it) (src := [.var 1]) (ifs := IF27_2) (elt := EL27_2) (ρ := [.val (.tup (x0 :: ys)), .val (.tup zs), .emp]) [.tup zs] zs id (fun w => !w.inR 0 5000) id rfl (by simp [srcf]) rfl rfl
                        (fun w hw' => by
                          have iw := hw B N w 0 5000 (hz.item hw')
                          refine ⟨[.val (.tup (x0 :: ys)), .val (.tup zs), .val w], rfl, ?_, fun _ => ?_, rfl⟩
                          · generalize D.tup (x0 :: ys) = A
                            generalize D.tup zs = Z
                            cases hh : w.inR 0 5000 <;> rw [hh] at iw <;> simp [IF27_2, iw]
                          · generalize D.tup (x0 :: ys) = A
                            generalize D.tup zs = Z
                            simp [EL27_2]) (by show _ ≤ 16777216; omega)
                      have e2' : ev Φ LC27_2 _ = _ := e2
                      rw [List.map_id] at e2'
                      have em4 := filter_none (xs := zs) (p := fun w => !w.inR 0 5000)
                      have em5 : (zs.all fun w => !!w.inR 0 5000) = zs.all (D.inR 0 5000) := by simp
                      rw [em5] at em4
                      show evTs Φ IF27_3 _ = .ok (!zs.all (D.inR 0 5000), _)
                      rw [← em4]
                      generalize zs.filter (fun w => !w.inR 0 5000) = FW at *
                      generalize D.tup (x0 :: ys) = A at *
                      generalize D.tup zs = Z at *
                      cases FW <;> simp [IF27_3, e2']
                    · generalize D.tup (x0 :: ys) = A
                      generalize D.tup zs = Z
                      simp [EL27_3]) (by show _ ≤ 16777216; omega)
                have e3' : ev Φ LC27_3 _ = _ := e3
                rw [List.map_id] at e3'
                have em6 := filter_none (xs := x0 :: ys) (p := fun x => !x.its.all (D.inR 0 5000))
                have em7 : ((x0 :: ys).all fun x => !!x.its.all (D.inR 0 5000)) = rowsW (x0 :: ys) := by unfold rowsW; simp
                rw [em7] at em6
                rw [← em6]
                refine runD_rt (d := D27) (ds := [.tup (x0 :: ys)]) (ρ := [.val (.tup (x0 :: ys)), .emp, .emp]) (t := .val (.bl ((x0 :: ys).filter (fun x => !x.its.all (D.inR 0 5000))).isEmpty)) rfl ?_ rfl rfl
                generalize (x0 :: ys).filter (fun x => !x.isT) = FL at *
                generalize (x0 :: ys).filter (fun x => !decide (x.its.length = rowM (x0 :: ys))) = FM at *
                generalize (x0 :: ys).filter (fun x => !x.its.all (D.inR 0 5000)) = FW at *
                generalize ((rowM (x0 :: ys) : Nat) : Int) = mi at *
                generalize (((x0 :: ys).length : Nat) : Int) = li at *
                generalize D.tup (x0 :: ys) = A at *
                cases FW <;> simp [D27, n27, t1, ln, a1, a2, e0', em, ix0, l0, b1, b2, e1', em1, e3']
            · have b1 : (1 : Int) ≤ (rowM (x0 :: ys) : Nat) := by omega
              have b2 : ¬ ((rowM (x0 :: ys) : Nat) : Int) ≤ 20 := by omega
              have er2 : rowsM (x0 :: ys) = false := by unfold rowsM; rw [decide_eq_false m2]; simp
              rw [er2]
              refine runD_rt (d := D27) (ds := [.tup (x0 :: ys)]) (ρ := [.val (.tup (x0 :: ys)), .emp, .emp]) (t := .val (.bl false)) rfl ?_ rfl rfl
              generalize (x0 :: ys).filter (fun x => !x.isT) = FL at *
              generalize ((rowM (x0 :: ys) : Nat) : Int) = mi at *
              generalize (((x0 :: ys).length : Nat) : Int) = li at *
              generalize D.tup (x0 :: ys) = A at *
              simp [D27, n27, t1, ln, a1, a2, e0', em, ix0, l0, b1, b2]
          · have b1 : ¬ (1 : Int) ≤ (rowM (x0 :: ys) : Nat) := by omega
            have er2 : rowsM (x0 :: ys) = false := by unfold rowsM; rw [decide_eq_false m1]; simp
            rw [er2]
            refine runD_rt (d := D27) (ds := [.tup (x0 :: ys)]) (ρ := [.val (.tup (x0 :: ys)), .emp, .emp]) (t := .val (.bl false)) rfl ?_ rfl rfl
            generalize (x0 :: ys).filter (fun x => !x.isT) = FL at *
            generalize ((rowM (x0 :: ys) : Nat) : Int) = mi at *
            generalize (((x0 :: ys).length : Nat) : Int) = li at *
            generalize D.tup (x0 :: ys) = A at *
            simp [D27, n27, t1, ln, a1, a2, e0', em, ix0, l0, b1]
      · have a1 : (1 : Int) ≤ (xs.length : Nat) := by omega
        have a2 : ¬ ((xs.length : Nat) : Int) ≤ 20 := by omega
        have er : rowsT xs = false := by unfold rowsT; rw [decide_eq_false h2]; simp
        rw [er]
        refine runD_rt (d := D27) (ds := [.tup xs]) (ρ := [.val (.tup xs), .emp, .emp]) (t := .val (.bl false)) rfl ?_ rfl rfl
        generalize D.tup xs = A at *
        simp [D27, n27, t1, ln, a1, a2]
    · have a1 : ¬ (1 : Int) ≤ (xs.length : Nat) := by omega
      have er : rowsT xs = false := by unfold rowsT; rw [decide_eq_false h1]; simp
      rw [er]
      refine runD_rt (d := D27) (ds := [.tup xs]) (ρ := [.val (.tup xs), .emp, .emp]) (t := .val (.bl false)) rfl ?_ rfl rfl
      generalize D.tup xs = A at *
      simp [D27, n27, t1, ln, a1]
end W
namespace W
open PySem DL L2
variable {k : Nat} {Φ : Nat → Fn} {B : Int} {N : Nat}
/-! ## asked -/
theorem askd1 {x : Str} {f : Nat} {a r : D} (hx : (fnTab fns).lookup x = some (f, 1)) (hf : Φ f [a] = .ok (.val r, [])) : runD Φ D15 [.fn x, .lst [a]] = .ok (.val (.lst [r]), []) := by
  refine runD_rt (d := D15) (ds := [.fn x, .lst [a]]) (ρ := [.val (.fn x), .val (.lst [a]), .emp]) (t := .val (.lst [r])) rfl ?_ rfl rfl
  show evSs Φ n15 [.val (.fn x), .val (.lst [a]), .emp] = _
  unfold n15
  generalize fnTab fns = tb at hx ⊢
  simp [hx, hf]
theorem askd2 {x : Str} {f : Nat} {a b r : D} (hx : (fnTab fns).lookup x = some (f, 2)) (hf : Φ f [a, b] = .ok (.val r, [])) : runD Φ D15 [.fn x, .lst [a, b]] = .ok (.val (.lst [r]), []) := by
  refine runD_rt (d := D15) (ds := [.fn x, .lst [a, b]]) (ρ := [.val (.fn x), .val (.lst [a, b]), .emp]) (t := .val (.lst [r])) rfl ?_ rfl rfl
  show evSs Φ n15 [.val (.fn x), .val (.lst [a, b]), .emp] = _
  unfold n15
  generalize fnTab fns = tb at hx ⊢
  simp [hx, hf]
theorem askd3 {x : Str} {f : Nat} {a b c r : D} (hx : (fnTab fns).lookup x = some (f, 3)) (hf : Φ f [a, b, c] = .ok (.val r, [])) : runD Φ D15 [.fn x, .lst [a, b, c]] = .ok (.val (.lst [r]), []) := by
  refine runD_rt (d := D15) (ds := [.fn x, .lst [a, b, c]]) (ρ := [.val (.fn x), .val (.lst [a, b, c]), .emp]) (t := .val (.lst [r])) rfl ?_ rfl rfl
  show evSs Φ n15 [.val (.fn x), .val (.lst [a, b, c]), .emp] = _
  unfold n15
  generalize fnTab fns = tb at hx ⊢
  simp [hx, hf]
theorem askx1 {x : Str} {f : Nat} {a u w : D} {c : Str} (hx : (fnTab fns).lookup x = some (f, 1)) (hf : Φ f [a] = .exc c u []) (hw : wordD whs c u = some w) : runD Φ D15 [.fn x, .lst [a]] = .ok (.val w, []) := by
  refine runD_rt (d := D15) (ds := [.fn x, .lst [a]]) (ρ := [.val (.fn x), .val (.lst [a]), .emp]) (t := .val w) rfl ?_ rfl rfl
  show evSs Φ n15 [.val (.fn x), .val (.lst [a]), .emp] = _
  unfold n15
  generalize fnTab fns = tb at hx ⊢
  generalize whs = wh at hw ⊢
  simp [hx, hf, wordR_exc, hw]
theorem askx2 {x : Str} {f : Nat} {a b u w : D} {c : Str} (hx : (fnTab fns).lookup x = some (f, 2)) (hf : Φ f [a, b] = .exc c u []) (hw : wordD whs c u = some w) : runD Φ D15 [.fn x, .lst [a, b]] = .ok (.val w, []) := by
  refine runD_rt (d := D15) (ds := [.fn x, .lst [a, b]]) (ρ := [.val (.fn x), .val (.lst [a, b]), .emp]) (t := .val w) rfl ?_ rfl rfl
  show evSs Φ n15 [.val (.fn x), .val (.lst [a, b]), .emp] = _
  unfold n15
  generalize fnTab fns = tb at hx ⊢
  generalize whs = wh at hw ⊢
  simp [hx, hf, wordR_exc, hw]
theorem askx3 {x : Str} {f : Nat} {a b c' u w : D} {c : Str} (hx : (fnTab fns).lookup x = some (f, 3)) (hf : Φ f [a, b, c'] = .exc c u []) (hw : wordD whs c u = some w) : runD Φ D15 [.fn x, .lst [a, b, c']] = .ok (.val w, []) := by
  refine runD_rt (d := D15) (ds := [.fn x, .lst [a, b, c']]) (ρ := [.val (.fn x), .val (.lst [a, b, c']), .emp]) (t := .val w) rfl ?_ rfl rfl
  show evSs Φ n15 [.val (.fn x), .val (.lst [a, b, c']), .emp] = _
  unfold n15
  generalize fnTab fns = tb at hx ⊢
  generalize whs = wh at hw ⊢
  simp [hx, hf, wordR_exc, hw]
/-! ## what the functions come to -/
def Oc (Φ : Nat → Fn) (f : Nat) (args : List D) : Option (Str × Str) → Prop
  | none => ∃ r, Φ f args = .ok (.val r, [])
  | some p => Φ f args = .exc p.1 (.str p.2) []
abbrev cS (Φ : Nat → Fn) (s : D) : Prop := Φ 1 [s] = if (pS s).isSome then .ok (.val .non, []) else .exc "ArgumentError" (.str "stops") []
abbrev cF (Φ : Nat → Fn) (s : D) : Prop := Φ 2 [s] = if (pF s).isSome then .ok (.val .non, []) else .exc "ArgumentError" (.str "fields") []
def dSF (s f : D) : Option (Str × Str) := if (pS s).isSome then (if (pF f).isSome then none else some ("ArgumentError", "fields")) else some ("ArgumentError", "stops")
theorem dSF_none {s f : D} (h : dSF s f = none) : ∃ S F, pS s = some S ∧ pF f = some F := by
  unfold dSF at h
  cases h1 : pS s with
  | none => rw [h1] at h; cases h
  | some S =>
    rw [h1] at h
    cases h2 : pF f with
    | none => rw [h2] at h; cases h
    | some F => exact ⟨S, F, rfl, rfl⟩
theorem set_x {s f : D} (c1 : cS Φ s) (c2 : cF Φ f) {p : Str × Str} (h : dSF s f = some p) : runD Φ D4 [s, f] = .exc p.1 (.str p.2) [] := by
  unfold dSF at h
  cases h1 : (pS s).isSome with
  | false =>
    rw [h1] at h
    cases h
    have c1' : Φ 1 [s] = .exc "ArgumentError" (.str "stops") [] := by rw [c1, h1]; rfl
    refine runD_exc (d := D4) (ds := [s, f]) (ρ := [.val s, .val f, .emp, .emp, .emp, .emp, .emp, .emp, .emp]) rfl ?_ rfl
    simp [D4, n4, c1']
  | true =>
    rw [h1] at h
    have c1' : Φ 1 [s] = .ok (.val .non, []) := by rw [c1, h1]; rfl
    cases h2 : (pF f).isSome with
    | true => rw [h2] at h; cases h
    | false =>
      rw [h2] at h
      cases h
      have c2' : Φ 2 [f] = .exc "ArgumentError" (.str "fields") [] := by rw [c2, h2]; rfl
      refine runD_exc (d := D4) (ds := [s, f]) (ρ := [.val s, .val f, .emp, .emp, .emp, .emp, .emp, .emp, .emp]) rfl ?_ rfl
      simp [D4, n4, c1', c2']
theorem shi_x {s f : D} {c x : Str} (h : Φ 4 [s, f] = .exc c (.str x) []) : runD Φ D5 [s, f] = .exc c (.str x) [] := by
  refine runD_exc (d := D5) (ds := [s, f]) (ρ := [.val s, .val f, .emp, .emp, .emp]) rfl ?_ rfl
  simp [D5, n5, h]
theorem cln_x {s f : D} {c x : Str} (h : Φ 4 [s, f] = .exc c (.str x) []) : runD Φ D6 [s, f] = .exc c (.str x) [] := by
  refine runD_exc (d := D6) (ds := [s, f]) (ρ := [.val s, .val f, .emp, .emp]) rfl ?_ rfl
  simp [D6, n6, h]
theorem acc_x {s f r : D} (c1 : cS Φ s) (c2 : cF Φ f) {p : Str × Str} (h : dSF s f = some p) : runD Φ D7 [s, f, r] = .exc p.1 (.str p.2) [] := by
  unfold dSF at h
  cases h1 : (pS s).isSome with
  | false =>
    rw [h1] at h
    cases h
    have c1' : Φ 1 [s] = .exc "ArgumentError" (.str "stops") [] := by rw [c1, h1]; rfl
    refine runD_exc (d := D7) (ds := [s, f, r]) (ρ := [.val s, .val f, .val r, .emp, .emp, .emp, .emp, .emp]) rfl ?_ rfl
    simp [D7, n7, c1']
  | true =>
    rw [h1] at h
    have c1' : Φ 1 [s] = .ok (.val .non, []) := by rw [c1, h1]; rfl
    cases h2 : (pF f).isSome with
    | true => rw [h2] at h; cases h
    | false =>
      rw [h2] at h
      cases h
      have c2' : Φ 2 [f] = .exc "ArgumentError" (.str "fields") [] := by rw [c2, h2]; rfl
      refine runD_exc (d := D7) (ds := [s, f, r]) (ρ := [.val s, .val f, .val r, .emp, .emp, .emp, .emp, .emp]) rfl ?_ rfl
      simp [D7, n7, c1', c2']
theorem acc_non {s f : D} (c1 : cS Φ s) (c2 : cF Φ f) (h : dSF s f = none) : runD Φ D7 [s, f, .non] = .exc "PaperError" (.str "form") [] := by
  obtain ⟨S, F, h1, h2⟩ := dSF_none h
  have c1' : Φ 1 [s] = .ok (.val .non, []) := by rw [c1, h1]; rfl
  have c2' : Φ 2 [f] = .ok (.val .non, []) := by rw [c2, h2]; rfl
  have kx : okX (.str "form") = true := by decide
  have t1 : opf (.isi "tuple") [.non] = some (.val (.bl false)) := rfl
  refine runD_exc (d := D7) (ds := [s, f, .non]) (ρ := [.val s, .val f, .val .non, .emp, .emp, .emp, .emp, .emp]) rfl ?_ rfl
  simp [D7, n7, c1', c2', kx, t1]
theorem sgn_x {f : D} (c2 : cF Φ f) (h : pF f = none) : runD Φ D9 [f] = .exc "ArgumentError" (.str "fields") [] := by
  have c2' : Φ 2 [f] = .exc "ArgumentError" (.str "fields") [] := by rw [c2, h]; rfl
  refine runD_exc (d := D9) (ds := [f]) (ρ := [.val f, .emp, .emp, .emp]) rfl ?_ rfl
  simp [D9, n9, c2']
end W
namespace W
open PySem DL L2
variable {k : Nat} {Φ : Nat → Fn} {B : Int} {N : Nat}
/-! ## bent -/
def bentC : List D := [.non, .bl true, .bl false, .int (-1), .int 0, .int 1, .str "", .str "new", .tup [], .tup [.int 0], .tup [.int 0, .int 1], .tup [.int 1, .int 1], .tup [.int 1, .int 0], .tup [.tup [.int 1, .int 1]], .tup [.tup [.int 0, .int 1]], .tup [.non], .tup [.bl true]]
theorem ab_ints {B : Int} {N : Nat} {l : List Int} (h : ∀ i ∈ l, -B ≤ i ∧ i ≤ B) (hl : l.length ≤ N) : Ab B N (.tup (l.map .int)) := .tup _ (by simpa using hl) fun x hx => by
  obtain ⟨i, hi, rfl⟩ := List.mem_map.mp hx
  exact .int i (h i hi).1 (h i hi).2
theorem ab_one {B : Int} {N : Nat} {d : D} (h : Ab B N d) (hN : 1 ≤ N) : Ab B N (.tup [d]) := .tup _ (by simpa using hN) fun x hx => by
  rw [List.mem_singleton.mp hx]; exact h
theorem bentC_ab (hB : 1 ≤ B) (hN : 2 ≤ N) : ∀ x ∈ bentC, Ab B N x := by
  have i0 : ∀ i : Int, -1 ≤ i → i ≤ 1 → Ab B N (.int i) := fun i h1 h2 => .int i (by omega) (by omega)
  have t2 : ∀ i j : Int, -1 ≤ i → i ≤ 1 → -1 ≤ j → j ≤ 1 → Ab B N (.tup [.int i, .int j]) := fun i j h1 h2 h3 h4 => .tup _ (by simpa using hN) fun x hx => by
    simp at hx
    rcases hx with rfl | rfl
    · exact i0 i h1 h2
    · exact i0 j h3 h4
  intro x hx
  simp only [bentC, List.mem_cons, List.not_mem_nil, or_false] at hx
  rcases hx with rfl | rfl | rfl | rfl | rfl | rfl | rfl | rfl | rfl | rfl | rfl | rfl | rfl | rfl | rfl | rfl | rfl
  · exact .non
  · exact .bl _
  · exact .bl _
  · exact i0 _ (by decide) (by decide)
  · exact i0 _ (by decide) (by decide)
  · exact i0 _ (by decide) (by decide)
  · exact .str _ (by decide +kernel) (by decide +kernel)
  · exact .str _ (by decide +kernel) (by decide +kernel)
  · exact .tup _ (by simp) fun x hx => by cases hx
  · exact ab_one (i0 _ (by decide) (by decide)) (by omega)
  · exact t2 _ _ (by decide) (by decide) (by decide) (by decide)
  · exact t2 _ _ (by decide) (by decide) (by decide) (by decide)
  · exact t2 _ _ (by decide) (by decide) (by decide) (by decide)
  · exact ab_one (t2 _ _ (by decide) (by decide) (by decide) (by decide)) (by omega)
  · exact ab_one (t2 _ _ (by decide) (by decide) (by decide) (by decide)) (by omega)
  · exact ab_one .non (by omega)
  · exact ab_one (.bl _) (by omega)
theorem bentC_mk : mkf .lst bentC = some (.own (.lst bentC)) := mkf_lst (by decide)
theorem bentC_mk' : mkf .lst [.non, .bl true, .bl false, .int (-1), .int 0, .int 1, .str "", .str "new", .tup [], .tup [.int 0], .tup [.int 0, .int 1], .tup [.int 1, .int 1], .tup [.int 1, .int 0], .tup [.tup [.int 1, .int 1]], .tup [.tup [.int 0, .int 1]], .tup [.non], .tup [.bl true]] = some (.own (.lst bentC)) := bentC_mk
abbrev Bt (Φ : Nat → Fn) (dep : Nat) : Prop := ∀ (B : Int) (N : Nat) (d st : D), Ab B N d → 1 ≤ B → 2 ≤ N → N ≤ 1000000 → IsSt st → ∃ r st', Φ 18 [st, d, .int (dep : Nat)] = .ok (.val r, [st']) ∧ Ab (B + 40) (N + 1) r ∧ IsSt st'
theorem body18 (dw : Draws Φ) {dep : Nat} (rc : ∀ m, dep = m + 1 → Bt Φ m) {d st : D} (h : Ab B N d) (hB : 1 ≤ B) (hN : 2 ≤ N) (hN2 : N ≤ 1000000) (hs : IsSt st) :
    ∃ r st', runD Φ D18 [st, d, .int (dep : Nat)] = .ok (.val r, [st']) ∧ Ab (B + 40) (N + 1) r ∧ IsSt st' := by
  have t1 := h.isi_tup
  have t2 := h.isi_int
  have t3 := h.isi_bool
  have mk := bentC_mk'
  have cab : ∀ x ∈ bentC, Ab (B + 40) (N + 1) x := fun x hx => (bentC_ab hB hN x hx).mono (by omega) (by omega)
  have pkc := fun s hs => dw.pk s bentC (by simp [bentC]) (by show 17 < 1073741824; omega) hs
  generalize bentC = C at *
  cases hn : d.isN with
  | true =>
    obtain ⟨i, rfl⟩ := isN_eq hn
    obtain ⟨v, s1, e1, v0, v1, h1⟩ := dw.dr st 4 (by omega) (by omega) hs
    by_cases hv : 0 < v
    · obtain ⟨j, s2, e2, hj, h2⟩ := dw.pi s1 [1, -1, 2, 40] (by simp) (by simp) h1
      have e2' : Φ 13 [s1, .lst [.int 1, .int (-1), .int 2, .int 40]] = _ := e2
      refine ⟨.int (i + j), s2, ?_, ?_, h2⟩
      · refine runD_rt (d := D18) (ds := [st, .int i, .int (dep : Nat)]) (ρ := [.io s2, .val (.int i), .val (.int (dep : Nat)), .emp, .emp]) (t := .val (.int (i + j))) rfl ?_ rfl rfl
        generalize ((dep : Nat) : Int) = di at *
        simp [D18, n18, t2, t3, D.isN, D.isB, e1, hv, e2']
      · have : -1 ≤ j ∧ j ≤ 40 := by
          simp at hj
          rcases hj with rfl | rfl | rfl | rfl <;> omega
        cases h with
        | int _ b1 b2 => exact .int _ (by omega) (by omega)
    · obtain ⟨x, s2, e2, hx, h2⟩ := pkc s1 h1
      refine ⟨x, s2, ?_, cab x hx, h2⟩
      refine runD_rt (d := D18) (ds := [st, .int i, .int (dep : Nat)]) (ρ := [.io s2, .val (.int i), .val (.int (dep : Nat)), .emp, .emp]) (t := .val x) rfl ?_ rfl rfl
      generalize ((dep : Nat) : Int) = di at *
      simp [D18, n18, t1, t2, t3, D.isN, D.isB, D.isT, e1, hv, mk, e2]
  | false =>
    have ni : (D.isN d || d.isB) = true → d.isB = true := fun z => by rw [hn, Bool.false_or] at z; exact z
    cases ht : d.isT with
    | false =>
      rw [ht] at t1
      obtain ⟨x, s2, e2, hx, h2⟩ := pkc st hs
      refine ⟨x, s2, ?_, cab x hx, h2⟩
      refine runD_rt (d := D18) (ds := [st, d, .int (dep : Nat)]) (ρ := [.io s2, .val d, .val (.int (dep : Nat)), .emp, .emp]) (t := .val x) rfl ?_ rfl rfl
      rw [hn, Bool.false_or] at t2
      generalize ((dep : Nat) : Int) = di at *
      cases hb : d.isB <;> rw [hb] at t2 t3 <;> simp [D18, n18, t1, t2, t3, mk, e2]
    | true =>
      obtain ⟨xs, rfl⟩ := isT_eq ht
      rw [ht] at t1
      have t2' : opf (.isi "int") [.tup xs] = some (.val (.bl false)) := t2
      have hl := h.len
      have ln : opf .len [.tup xs] = some (.val (.int (xs.length : Nat))) := rfl
      have tr : truth (.tup xs) = some (!xs.isEmpty) := truth_tup
      cases hx0 : xs.isEmpty with
      | true =>
        rw [hx0] at tr
        obtain ⟨x, s2, e2, hx, h2⟩ := pkc st hs
        refine ⟨x, s2, ?_, cab x hx, h2⟩
        refine runD_rt (d := D18) (ds := [st, .tup xs, .int (dep : Nat)]) (ρ := [.io s2, .val (.tup xs), .val (.int (dep : Nat)), .emp, .emp]) (t := .val x) rfl ?_ rfl rfl
        have dft : opf .tru [.tup xs] = DL.b1 (truth (.tup xs)) := rfl
        generalize ((dep : Nat) : Int) = di at *
        generalize D.tup xs = A at *
        simp [D18, n18, t1, t2', dft, tr, mk, e2]
      | false =>
        rw [hx0] at tr
        have dft : opf .tru [.tup xs] = DL.b1 (truth (.tup xs)) := rfl
        by_cases hd : dep = 0
        · subst hd
          obtain ⟨x, s2, e2, hx, h2⟩ := pkc st hs
          refine ⟨x, s2, ?_, cab x hx, h2⟩
          refine runD_rt (d := D18) (ds := [st, .tup xs, .int ((0 : Nat) : Nat)]) (ρ := [.io s2, .val (.tup xs), .val (.int ((0 : Nat) : Nat)), .emp, .emp]) (t := .val x) rfl ?_ rfl rfl
          generalize D.tup xs = A at *
          simp [D18, n18, t1, t2', dft, tr, mk, e2]
        · have hdi : ¬ ((dep : Nat) : Int) = 0 := by omega
          obtain ⟨v, s1, e1, v0, v1, h1⟩ := dw.dr st 9 (by omega) (by omega) hs
          by_cases hv : v = 0
          · obtain ⟨x, s2, e2, hx, h2⟩ := pkc s1 h1
            refine ⟨x, s2, ?_, cab x hx, h2⟩
            refine runD_rt (d := D18) (ds := [st, .tup xs, .int (dep : Nat)]) (ρ := [.io s2, .val (.tup xs), .val (.int (dep : Nat)), .emp, .emp]) (t := .val x) rfl ?_ rfl rfl
            generalize ((dep : Nat) : Int) = di at *
            generalize D.tup xs = A at *
            simp [D18, n18, t1, t2', dft, tr, hdi, e1, hv, mk, e2]
          · have hxl : 0 < xs.length := by
              cases xs with
              | nil => cases hx0
              | cons a b => simp
            obtain ⟨a, s2, e2, a0, a1, h2⟩ := dw.dr s1 (xs.length : Nat) (by omega) (by omega) h1
            obtain ⟨p, s3, e3, p0, p1, h3⟩ := dw.dr s2 8 (by omega) (by omega) h2
            obtain ⟨n, rfl⟩ : ∃ n : Nat, a = n := ⟨a.toNat, by omega⟩
            have nl : n < xs.length := by omega
            have c1 := sl_ftT (xs := xs) (j := n) (b := (n : Int)) rfl
            have c2 := sl_tfT (xs := xs) (i := n + 1) (a := (n : Int) + 1) (by omega)
            have c3 := sl_ttT (xs := xs) (i := n) (j := n + 1) (a := (n : Int)) (b := (n : Int) + 1) rfl (by omega) (by omega) (by omega)
            have c4 := sl_tfT (xs := xs) (i := n) (a := (n : Int)) rfl
            have mem : ∀ x ∈ xs, Ab (B + 40) (N + 1) x := fun x hx => (h.item hx).mono (by omega) (by omega)
            by_cases q0 : p = 0
            · have ap := bin_apT (xs := xs.take n) (ys := xs.drop (n + 1)) (by rw [List.length_take, List.length_drop]; omega)
              refine ⟨.tup (xs.take n ++ xs.drop (n + 1)), s3, ?_, .tup _ (by rw [List.length_append, List.length_take, List.length_drop]; omega) fun x hx => ?_, h3⟩
              · refine runD_rt (d := D18) (ds := [st, .tup xs, .int (dep : Nat)]) (ρ := [.io s3, .val (.tup xs), .val (.int (dep : Nat)), .val (.int (n : Nat)), .val (.int p)]) (t := .val (.tup (xs.take n ++ xs.drop (n + 1)))) rfl ?_ rfl rfl
                generalize ((dep : Nat) : Int) = di at *
                generalize ((n : Nat) : Int) = ni at *
                generalize ((xs.length : Nat) : Int) = li at *
                generalize D.tup xs = A at *
                simp [D18, n18, t1, t2', dft, tr, hdi, e1, hv, ln, e2, e3, q0, c1, c2, ap]
              · rcases List.mem_append.mp hx with hx | hx
                · exact mem x (List.mem_of_mem_take hx)
                · exact mem x (List.mem_of_mem_drop hx)
            by_cases q1 : p = 1
            · have ap := bin_apT (xs := xs.take n) (ys := (xs.drop n).take (n + 1 - n)) (by rw [List.length_take, List.length_take, List.length_drop]; omega)
              have ap2 := bin_apT (xs := xs.take n ++ (xs.drop n).take (n + 1 - n)) (ys := xs.drop n) (by rw [List.length_append, List.length_take, List.length_take, List.length_drop]; omega)
              refine ⟨.tup (xs.take n ++ (xs.drop n).take (n + 1 - n) ++ xs.drop n), s3, ?_, .tup _ (by rw [List.length_append, List.length_append, List.length_take, List.length_take, List.length_drop]; omega) fun x hx => ?_, h3⟩
              · refine runD_rt (d := D18) (ds := [st, .tup xs, .int (dep : Nat)]) (ρ := [.io s3, .val (.tup xs), .val (.int (dep : Nat)), .val (.int (n : Nat)), .val (.int p)]) (t := .val (.tup (xs.take n ++ (xs.drop n).take (n + 1 - n) ++ xs.drop n))) rfl ?_ rfl rfl
                generalize ((dep : Nat) : Int) = di at *
                generalize ((n : Nat) : Int) = ni at *
                generalize ((xs.length : Nat) : Int) = li at *
                generalize (xs.drop n).take (n + 1 - n) = T1 at *
                generalize xs.take n = T0 at *
                generalize xs.drop n = T2 at *
                generalize T0 ++ T1 ++ T2 = T3 at *
                generalize T0 ++ T1 = T4 at *
                generalize D.tup xs = A at *
                simp [D18, n18, t1, t2', dft, tr, hdi, e1, hv, ln, e2, e3, q0, q1, c1, c3, c4, ap, ap2]
              · rcases List.mem_append.mp hx with hx | hx
                · rcases List.mem_append.mp hx with hx | hx
                  · exact mem x (List.mem_of_mem_take hx)
                  · exact mem x (List.mem_of_mem_drop (List.mem_of_mem_take hx))
                · exact mem x (List.mem_of_mem_drop hx)
            by_cases q2 : p = 2
            · have rv : opf .rev [.tup xs] = some (.val (.tup xs.reverse)) := rfl
              refine ⟨.tup xs.reverse, s3, ?_, .tup _ (by rw [List.length_reverse]; omega) fun x hx => mem x (List.mem_reverse.mp hx), h3⟩
              refine runD_rt (d := D18) (ds := [st, .tup xs, .int (dep : Nat)]) (ρ := [.io s3, .val (.tup xs), .val (.int (dep : Nat)), .val (.int (n : Nat)), .val (.int p)]) (t := .val (.tup xs.reverse)) rfl ?_ rfl rfl
              generalize ((dep : Nat) : Int) = di at *
              generalize ((n : Nat) : Int) = ni at *
              generalize ((xs.length : Nat) : Int) = li at *
              generalize xs.reverse = R at *
              generalize D.tup xs = A at *
              simp [D18, n18, t1, t2', dft, tr, hdi, e1, hv, ln, e2, e3, q0, q1, q2, rv]
            · obtain ⟨m, rfl⟩ : ∃ m, dep = m + 1 := ⟨dep - 1, by omega⟩
              have hi : xs[n]? = some xs[n] := List.getElem?_eq_getElem nl
              have ix : opf .ix [.tup xs, .int (n : Nat)] = some (.val xs[n]) := by rw [opf_ixT, atI_nat hi]; rfl
              obtain ⟨r, s4, e4, r4, h4⟩ := rc m rfl B N xs[n] s3 (h.item (List.getElem_mem nl)) hB hN hN2 h3
              have dm : (((m + 1 : Nat) : Nat) : Int) - 1 = (m : Nat) := by omega
              have ap := bin_apT (xs := xs.take n) (ys := [r]) (by rw [List.length_take]; simp; omega)
              have ap2 := bin_apT (xs := xs.take n ++ [r]) (ys := xs.drop (n + 1)) (by rw [List.length_append, List.length_take, List.length_drop]; simp; omega)
              refine ⟨.tup (xs.take n ++ [r] ++ xs.drop (n + 1)), s4, ?_, .tup _ (by rw [List.length_append, List.length_append, List.length_take, List.length_drop]; simp; omega) fun x hx => ?_, h4⟩
              · refine runD_rt (d := D18) (ds := [st, .tup xs, .int ((m + 1 : Nat) : Nat)]) (ρ := [.io s4, .val (.tup xs), .val (.int ((m + 1 : Nat) : Nat)), .val (.int (n : Nat)), .val (.int p)]) (t := .val (.tup (xs.take n ++ [r] ++ xs.drop (n + 1)))) rfl ?_ rfl rfl
                generalize xs[n] = X at *
                generalize (((m + 1 : Nat) : Nat) : Int) = di at *
                generalize ((m : Nat) : Int) = mi at *
                generalize ((n : Nat) : Int) = ni at *
                generalize ((xs.length : Nat) : Int) = li at *
                generalize xs.take n = T0 at *
                generalize xs.drop (n + 1) = T2 at *
                generalize T0 ++ [r] ++ T2 = T3 at *
                generalize T0 ++ [r] = T4 at *
                generalize D.tup xs = A at *
                simp [D18, n18, t1, t2', dft, tr, hdi, e1, hv, ln, e2, e3, q0, q1, q2, c1, c2, ix, dm, e4, ap, ap2]
              · rcases List.mem_append.mp hx with hx | hx
                · rcases List.mem_append.mp hx with hx | hx
                  · exact mem x (List.mem_of_mem_take hx)
                  · rw [List.mem_singleton.mp hx]; exact r4
                · exact mem x (List.mem_of_mem_drop hx)
end W
namespace W
open PySem DL L2
variable {k : Nat} {Φ : Nat → Fn} {B : Int} {N : Nat}
/-! ## any data told as rows of set fields -/
def rwOk (m : Nat) : D → Bool
  | .tup [.int n, .int _] => decide (0 ≤ n) && decide (n < (m : Int))
  | _ => false
def toR : D → Nat × Int
  | .tup [.int n, .int p] => (n.toNat, p)
  | _ => (0, 0)
def rD1 (r : Nat × Int) : D := .tup [.int (r.1 : Nat), .int r.2]
def rwsOk (m n : Nat) : D → Bool
  | .tup xs => decide (xs.length = n) && xs.all (rwOk m)
  | _ => false
theorem rwOk_eq {m : Nat} {d : D} (h : rwOk m d = true) : d = rD1 (toR d) ∧ (toR d).1 < m := by
  unfold rwOk at h
  split at h
  · rename_i n p
    rw [Bool.and_eq_true, decide_eq_true_eq, decide_eq_true_eq] at h
    refine ⟨?_, by show n.toNat < m; omega⟩
    show D.tup [.int n, .int p] = .tup [.int (n.toNat : Nat), .int p]
    rw [Int.toNat_of_nonneg h.1]
  · cases h
theorem rwsOk_eq {m n : Nat} {d : D} (h : rwsOk m n d = true) : ∃ R : List (Nat × Int), d = .tup (R.map rD1) ∧ R.length = n ∧ ∀ r ∈ R, r.1 < m := by
  cases d with
  | tup xs =>
    have h' : (decide (xs.length = n) && xs.all (rwOk m)) = true := h
    rw [Bool.and_eq_true, decide_eq_true_eq] at h'
    have ha := List.all_eq_true.mp h'.2
    refine ⟨xs.map toR, ?_, by rw [List.length_map]; exact h'.1, fun r hr => ?_⟩
    · congr 1
      rw [List.map_map]
      conv => lhs; rw [← List.map_id xs]
      exact List.map_congr_left fun x hx => (rwOk_eq (ha x hx)).1
    · obtain ⟨x, hx, rfl⟩ := List.mem_map.mp hr
      exact (rwOk_eq (ha x hx)).2
  | _ => cases h
/-- what comes of rows that are told rightly -/
def acL (S : List Stp) : List ((Nat × Int) × Fld) → Int → Int → Option Str
  | [], _, _ => none
  | ((n, p), f) :: r, u, e => if (n : Int) ≤ u then some "stop" else if p < e ∨ p < wtd (S.getD n ⟨0, .lf⟩) f then some "place" else acL S r n (p + f.w)
theorem getD_at {S : List Stp} {n : Nat} (h : n < S.length) : S[n]? = some (S.getD n ⟨0, .lf⟩) := by
  rw [List.getD_eq_getElem?_getD, List.getElem?_eq_getElem h]; rfl
theorem row_ix {r : Nat × Int} : opf .ix [rD1 r, .int 0] = some (.val (.int (r.1 : Nat))) ∧ opf .ix [rD1 r, .int 1] = some (.val (.int r.2)) := by simp [rD1]
/-- the second loop of accept_fields -/
theorem ac_loop (hw : wtI Φ 3) {S : List Stp} {A F0 R0 : D} (hA : A = .tup (sd S)) : ∀ (L : List ((Nat × Int) × Fld)), (∀ q ∈ L, q.1.1 < S.length) → ∀ (u e : Int) (t3 t6 : Slot), (t3 = .emp ∨ ∃ x, t3 = .val x) → (t6 = .emp ∨ ∃ x, t6 = .val x) →
    ∃ x3 x4 x5 x6, forR (fun x' ρ => (R.ofO (assignT (.tup [(.name 3 false), (.name 6 false)]) (.val x') ρ)).bind fun ρ1 => evSs Φ BD7_2 ρ1) (L.map fun q => D.tup [rD1 q.1, q.2.d]) [.val A, .val F0, .val R0, t3, .val (.int e), .val (.int u), t6, .emp] =
      (match acL S L u e with
      | none => .ok (.nx [.val A, .val F0, .val R0, x3, x4, x5, x6, .emp])
      | some w => .exc "PaperError" (.str w) [.val A, .val F0, .val R0, x3, x4, x5, x6, .emp])
  | [], _, u, e, t3, t6, _, _ => ⟨_, _, _, _, rfl⟩
  | ((n, p), f) :: L, hL, u, e, t3, t6, h3, h6 => by
    have hn : n < S.length := hL _ List.mem_cons_self
    have a1 : assignT (.tup [(.name 3 false), (.name 6 false)]) (.val (.tup [rD1 (n, p), f.d])) [.val A, .val F0, .val R0, t3, .val (.int e), .val (.int u), t6, .emp] = some [.val A, .val F0, .val R0, .val (rD1 (n, p)), .val (.int e), .val (.int u), .val f.d, .emp] := rfl
    obtain ⟨i0, i1⟩ := row_ix (r := (n, p))
    obtain ⟨f0, f1⟩ := fl_ix (s := f)
    have ix : opf .ix [A, .int (n : Nat)] = some (.val (S.getD n ⟨0, .lf⟩).d) := by rw [hA, opf_ixT, sd_at (getD_at hn)]; rfl
    have wv := hw (S.getD n ⟨0, .lf⟩) f
    have kx1 : okX (.str "stop") = true := by decide
    have kx2 : okX (.str "place") = true := by decide
    have st : evSs Φ BD7_2 [.val A, .val F0, .val R0, .val (rD1 (n, p)), .val (.int e), .val (.int u), .val f.d, .emp] =
      if (n : Int) ≤ u then .exc "PaperError" (.str "stop") [.val A, .val F0, .val R0, .val (rD1 (n, p)), .val (.int e), .val (.int u), .val f.d, .emp]
      else if p < e ∨ p < wtd (S.getD n ⟨0, .lf⟩) f then .exc "PaperError" (.str "place") [.val A, .val F0, .val R0, .val (rD1 (n, p)), .val (.int e), .val (.int u), .val f.d, .emp]
      else .ok (.nx [.val A, .val F0, .val R0, .val (rD1 (n, p)), .val (.int (p + f.w)), .val (.int (n : Nat)), .val f.d, .emp]) := by
      clear hA
      dsimp only at i0 i1
      generalize (S.getD n ⟨0, .lf⟩).d = X at *
      generalize wtd (S.getD n ⟨0, .lf⟩) f = wt at *
      generalize rD1 (n, p) = Rw at *
      generalize f.d = FD at *
      generalize ((n : Nat) : Int) = ni at *
      by_cases c1 : ni ≤ u
      · simp [BD7_2, i0, c1, kx1]
      · by_cases c2 : p < e
        · simp [BD7_2, i0, i1, c1, c2, kx2]
        · by_cases c3 : p < wt
          · simp [BD7_2, i0, i1, c1, c2, ix, wv, c3, kx2]
          · simp [BD7_2, i0, i1, f0, c1, c2, ix, wv, c3]
    by_cases c1 : (n : Int) ≤ u
    · rw [if_pos c1] at st
      refine ⟨.val (rD1 (n, p)), .val (.int e), .val (.int u), .val f.d, ?_⟩
      rw [show acL S (((n, p), f) :: L) u e = some ("stop" : Str) by rw [acL, if_pos c1]]
      exact forR_exc (stepR (Φ := Φ) a1 st)
    · rw [if_neg c1] at st
      by_cases c2 : p < e ∨ p < wtd (S.getD n ⟨0, .lf⟩) f
      · rw [if_pos c2] at st
        refine ⟨.val (rD1 (n, p)), .val (.int e), .val (.int u), .val f.d, ?_⟩
        rw [show acL S (((n, p), f) :: L) u e = some ("place" : Str) by rw [acL, if_neg c1, if_pos c2]]
        exact forR_exc (stepR (Φ := Φ) a1 st)
      · rw [if_neg c2] at st
        obtain ⟨x3, x4, x5, x6, ih⟩ := ac_loop hw hA L (fun q hq => hL q (List.mem_cons_of_mem _ hq)) (n : Nat) (p + f.w) (.val (rD1 (n, p))) (.val f.d) (.inr ⟨_, rfl⟩) (.inr ⟨_, rfl⟩)
        refine ⟨x3, x4, x5, x6, ?_⟩
        rw [show acL S (((n, p), f) :: L) u e = acL S L (n : Nat) (p + f.w) by rw [acL, if_neg c1, if_neg c2], ← ih]
        exact forR_nx (stepR (Φ := Φ) a1 st)
/-- one row -/
theorem ck_row (hi : aI Φ) {d A F0 R0 : D} {m : Nat} (h : Ab B N d) (hA : opf .len [A] = some (.val (.int (m : Nat)))) : evSs Φ BD7_1 [.val A, .val F0, .val R0, .val d, .emp, .emp, .emp, .emp] =
    if rwOk m d then .ok (.nx [.val A, .val F0, .val R0, .val d, .emp, .emp, .emp, .emp]) else .exc "PaperError" (.str "form") [.val A, .val F0, .val R0, .val d, .emp, .emp, .emp, .emp] := by
  have t1 := h.isi_tup
  have kx : okX (.str "form") = true := by decide
  cases ht : d.isT with
  | false =>
    rw [ht] at t1
    have e : rwOk m d = false := by cases d <;> first | rfl | cases ht
    rw [e]
    simp [BD7_1, t1, kx]
  | true =>
    obtain ⟨xs, rfl⟩ := isT_eq ht
    rw [ht] at t1
    by_cases hl : xs.length = 2
    · obtain ⟨a, b, rfl⟩ : ∃ a b, xs = [a, b] := by
        match xs, hl with
        | [a, b], _ => exact ⟨a, b, rfl⟩
      have ha := h.item (x := a) (by simp)
      have hb := h.item (x := b) (by simp)
      have e := lc_ty0S (Φ := Φ) (vs := [7]) (t := .name 7 false) (k := .it) (src := [.var 3]) (elt := EL7_0) (ρ := [.val A, .val F0, .val R0, .val (.tup [a, b]), .emp, .emp, .emp, .emp]) [.tup [a, b]] [a, b] id (fun x => D.bl x.isN) rfl rfl rfl rfl
        (fun x hx => ⟨[.val A, .val F0, .val R0, .val (.tup [a, b]), .emp, .emp, .emp, .val x], rfl, by
          have hx' : Ab B N x := by
            rcases List.mem_cons.mp hx with rfl | hx
            · exact ha
            · rw [List.mem_singleton.mp hx]; exact hb
          have := hi B N x hx'
          generalize D.tup [a, b] = X
          simp [EL7_0, this], rfl⟩) (by show 2 ≤ 16777216; omega)
      have e' : ev Φ LC7_0 _ = .ok (.own (.lst [.bl a.isN, .bl b.isN]), [.val A, .val F0, .val R0, .val (.tup [a, b]), .emp, .emp, .emp, .emp]) := e
      have al := all2 (x := a.isN) (y := b.isN)
      have i0 : opf .ix [.tup [a, b], .int 0] = some (.val a) := rfl
      have ln : opf .len [.tup [a, b]] = some (.val (.int 2)) := rfl
      cases ea : a.isN with
      | false =>
        rw [ea] at al e'
        have e : rwOk m (.tup [a, b]) = false := by cases a <;> first | rfl | cases ea
        rw [e]
        generalize D.tup [a, b] = X at *
        simp [BD7_1, t1, kx, ln, e', al]
      | true =>
        obtain ⟨w, rfl⟩ := isN_eq ea
        rw [ea] at al e'
        cases eb : b.isN with
        | false =>
          rw [eb] at al e'
          have e : rwOk m (.tup [.int w, b]) = false := by cases b <;> first | rfl | cases eb
          rw [e]
          generalize D.tup [.int w, b] = X at *
          simp [BD7_1, t1, kx, ln, e', al]
        | true =>
          obtain ⟨c, rfl⟩ := isN_eq eb
          rw [eb] at al e'
          have e : rwOk m (.tup [.int w, .int c]) = (decide (0 ≤ w) && decide (w < (m : Int))) := rfl
          rw [e]
          generalize D.tup [.int w, .int c] = X at *
          generalize ((m : Nat) : Int) = mi at *
          by_cases c1 : 0 ≤ w <;> by_cases c2 : w < mi <;> simp [BD7_1, t1, kx, ln, e', al, i0, c1, c2, hA]
    · have e : rwOk m (.tup xs) = false := by
        unfold rwOk
        split
        · rename_i heq; cases heq; exact absurd rfl hl
        · rfl
      have hl' : ¬ ((xs.length : Int) = 2) := by omega
      rw [e]
      simp [BD7_1, t1, kx, hl']
/-- what accept_fields says of any data -/
def acD2 (S : List Stp) (F : List Fld) (d : D) : Option Str := if rwsOk S.length F.length d then acL S ((d.its.map toR).zip F) (-1) 0 else some "form"
theorem abody7 (hi : aI Φ) (hw : wtI Φ 3) {S : List Stp} (hS : Sps S) {F : List Fld} (hF : Fds F) (ck : ckS Φ S F) {d : D} (h : Ab B N d) : runD Φ D7 [.tup (sd S), .tup (fd F), d] =
    match acD2 S F d with
    | none => .ok (.val .non, [])
    | some w => .exc "PaperError" (.str w) [] := by
  have t1 := h.isi_tup
  have kx : okX (.str "form") = true := by decide
  obtain ⟨ck1, ck2⟩ := ck
  have lS : opf .len [.tup (sd S)] = some (.val (.int (S.length : Nat))) := by rw [opf_lenT, sd_len]
  have lF : opf .len [.tup (fd F)] = some (.val (.int (F.length : Nat))) := by rw [opf_lenT, fd_len]
  cases ht : d.isT with
  | false =>
    rw [ht] at t1
    have e : acD2 S F d = some ("form" : Str) := by unfold acD2; rw [show rwsOk S.length F.length d = false by cases d <;> first | rfl | cases ht]; rfl
    rw [e]
    refine runD_exc (d := D7) (ds := [.tup (sd S), .tup (fd F), d]) (ρ := [.val (.tup (sd S)), .val (.tup (fd F)), .val d, .emp, .emp, .emp, .emp, .emp]) rfl ?_ rfl
    generalize D.tup (sd S) = A at *
    generalize D.tup (fd F) = FF at *
    simp [D7, n7, ck1, ck2, t1, kx]
  | true =>
    obtain ⟨xs, rfl⟩ := isT_eq ht
    rw [ht] at t1
    have ln : opf .len [.tup xs] = some (.val (.int (xs.length : Nat))) := rfl
    by_cases hl : xs.length = F.length
    · have hl' : ((xs.length : Nat) : Int) = ((F.length : Nat) : Int) := by omega
      have fr := for_ck (Φ := Φ) (t := .name 3 false) (k := .it) (src := [.var 2]) (b := BD7_1) (ρ := [.val (.tup (sd S)), .val (.tup (fd F)), .val (.tup xs), .emp, .emp, .emp, .emp, .emp]) (ρ1 := [.val (.tup (sd S)), .val (.tup (fd F)), .val (.tup xs), .emp, .emp, .emp, .emp, .emp]) (ds := [.tup xs]) (xs := xs)
        (fun (_ : Unit) ρ => ∃ t3, ρ = [.val (.tup (sd S)), .val (.tup (fd F)), .val (.tup xs), t3, .emp, .emp, .emp, .emp] ∧ (t3 = .emp ∨ ∃ x, t3 = .val x)) (fun _ x => if rwOk S.length x then some () else none)
        (fun r => ∃ t3, r = .exc "PaperError" (.str "form") [.val (.tup (sd S)), .val (.tup (fd F)), .val (.tup xs), t3, .emp, .emp, .emp, .emp]) () rfl rfl (fun r ⟨a, e⟩ => .inr ⟨_, _, _, e⟩) (fun x hx a ρ ⟨t3, hρ, _⟩ => by
          subst hρ
          refine ⟨[.val (.tup (sd S)), .val (.tup (fd F)), .val (.tup xs), .val x, .emp, .emp, .emp, .emp], rfl, ?_⟩
          have z := ck_row (Φ := Φ) hi (h.item hx) (A := .tup (sd S)) (F0 := .tup (fd F)) (R0 := .tup xs) lS
          cases e : rwOk S.length x with
          | false => rw [e] at z; exact ⟨_, z⟩
          | true => rw [e] at z; exact ⟨_, z, _, rfl, .inr ⟨_, rfl⟩⟩) ⟨.emp, rfl, .inl rfl⟩
      have gen : ∀ l : List D, l.foldlM (fun (_ : Unit) x => if rwOk S.length x then some () else none) () = if l.all (rwOk S.length) then some () else none := by
        intro l
        induction l with
        | nil => rfl
        | cons a l ih =>
          rw [List.foldlM_cons, List.all_cons]
          cases ha : rwOk S.length a with
          | false => rfl
          | true =>
            rw [Bool.true_and, ← ih]
            rfl
      rw [gen] at fr
      cases hx : xs.all (rwOk S.length) with
      | false =>
        rw [hx] at fr
        obtain ⟨t3, f1⟩ := fr
        have f1' : evS Φ FR7_1 _ = _ := f1
        have e : acD2 S F (.tup xs) = some ("form" : Str) := by
          unfold acD2
          rw [show rwsOk S.length F.length (.tup xs) = (decide (xs.length = F.length) && xs.all (rwOk S.length)) from rfl, hx, Bool.and_false]
          rfl
        rw [e]
        refine runD_exc (d := D7) (ds := [.tup (sd S), .tup (fd F), .tup xs]) (ρ := [.val (.tup (sd S)), .val (.tup (fd F)), .val (.tup xs), t3, .emp, .emp, .emp, .emp]) rfl ?_ rfl
        generalize D.tup (sd S) = A at *
        generalize D.tup (fd F) = FF at *
        generalize ((xs.length : Nat) : Int) = li at *
        generalize ((F.length : Nat) : Int) = fi at *
        generalize D.tup xs = X at *
        simp [D7, n7, ck1, ck2, t1, ln, lF, hl', f1']
      | true =>
        rw [hx] at fr
        obtain ⟨ρ', f1, t3, f2, ht3⟩ := fr
        subst f2
        have f1' : evS Φ FR7_1 _ = _ := f1
        have ok : rwsOk S.length F.length (.tup xs) = true := by
          show (decide (xs.length = F.length) && xs.all (rwOk S.length)) = true
          rw [hx, decide_eq_true hl]; rfl
        have e : acD2 S F (.tup xs) = acL S ((xs.map toR).zip F) (-1) 0 := by
          unfold acD2
          rw [ok]
          rfl
        rw [e]
        have ha := List.all_eq_true.mp hx
        have ex : xs = (xs.map toR).map rD1 := by
          rw [List.map_map]
          conv => lhs; rw [← List.map_id xs]
          exact List.map_congr_left fun x hx => (rwOk_eq (ha x hx)).1
        have zz : srcf .zip [.tup xs, .tup (fd F)] = some (((xs.map toR).zip F).map fun q => D.tup [rD1 q.1, q.2.d]) := by
          rw [zip_tt]
          congr 1
          conv => lhs; rw [ex]
          exact zip_map rD1 Fld.d (xs.map toR) F
        obtain ⟨x3, x4, x5, x6, al⟩ := ac_loop (Φ := Φ) hw (A := .tup (sd S)) (F0 := .tup (fd F)) (R0 := .tup xs) rfl ((xs.map toR).zip F) (fun q hq => by
          obtain ⟨x, hx, e⟩ := List.mem_map.mp (List.of_mem_zip hq).1
          rw [← e]
          exact (rwOk_eq (ha x hx)).2) (-1) 0 t3 .emp ht3 (.inl rfl)
        have fe := for_eq (Φ := Φ) (t := .tup [(.name 3 false), (.name 6 false)]) (k := .zip) (src := [(.var 2), (.var 1)]) (b := BD7_2) (ρ := [.val (.tup (sd S)), .val (.tup (fd F)), .val (.tup xs), t3, .val (.int 0), .val (.int (-1)), .emp, .emp]) (ρ1 := [.val (.tup (sd S)), .val (.tup (fd F)), .val (.tup xs), t3, .val (.int 0), .val (.int (-1)), .emp, .emp]) (ds := [.tup xs, .tup (fd F)]) rfl zz
        have fe' : evS Φ FR7_2 _ = _ := fe.trans al
        cases hac : acL S ((xs.map toR).zip F) (-1) 0 with
        | none =>
          rw [hac] at fe'
          refine runD_nx (d := D7) (ds := [.tup (sd S), .tup (fd F), .tup xs]) (ρ := [.val (.tup (sd S)), .val (.tup (fd F)), .val (.tup xs), x3, x4, x5, x6, .emp]) rfl ?_ rfl
          generalize D.tup (sd S) = A at *
          generalize D.tup (fd F) = FF at *
          generalize ((xs.length : Nat) : Int) = li at *
          generalize ((F.length : Nat) : Int) = fi at *
          generalize D.tup xs = X at *
          simp [D7, n7, ck1, ck2, t1, ln, lF, hl', f1', fe']
        | some w =>
          rw [hac] at fe'
          refine runD_exc (d := D7) (ds := [.tup (sd S), .tup (fd F), .tup xs]) (ρ := [.val (.tup (sd S)), .val (.tup (fd F)), .val (.tup xs), x3, x4, x5, x6, .emp]) rfl ?_ rfl
          generalize D.tup (sd S) = A at *
          generalize D.tup (fd F) = FF at *
          generalize ((xs.length : Nat) : Int) = li at *
          generalize ((F.length : Nat) : Int) = fi at *
          generalize D.tup xs = X at *
          simp [D7, n7, ck1, ck2, t1, ln, lF, hl', f1', fe']
    · have hl' : ¬ ((xs.length : Nat) : Int) = ((F.length : Nat) : Int) := by omega
      have e : acD2 S F (.tup xs) = some ("form" : Str) := by
        unfold acD2
        rw [show rwsOk S.length F.length (.tup xs) = (decide (xs.length = F.length) && xs.all (rwOk S.length)) from rfl, decide_eq_false hl, Bool.false_and]
        rfl
      rw [e]
      refine runD_exc (d := D7) (ds := [.tup (sd S), .tup (fd F), .tup xs]) (ρ := [.val (.tup (sd S)), .val (.tup (fd F)), .val (.tup xs), .emp, .emp, .emp, .emp, .emp]) rfl ?_ rfl
      generalize D.tup (sd S) = A at *
      generalize D.tup (fd F) = FF at *
      generalize ((xs.length : Nat) : Int) = li at *
      generalize ((F.length : Nat) : Int) = fi at *
      generalize D.tup xs = X at *
      simp [D7, n7, ck1, ck2, t1, ln, lF, hl', kx]
end W
namespace W
open PySem DL L2
variable {k : Nat} {Φ : Nat → Fn} {B : Int} {N : Nat}
/-! ## what is due, by the law -/
theorem pow40 : binf .Pow (.int 10) (.int 40) = some (.val (.int 10000000000000000000000000000000000000000)) := by
  have h : binf .Pow (.int 10) (.int 40) = if powOk 10 40 then some (.val (.int ((10 : Int) ^ (40 : Int).toNat))) else none := rfl
  rw [h, if_pos (by decide)]
  rfl
/-- one row, by the law -/
theorem lk_row (hw : aW Φ) {d A F0 : D} {R0 : D} {m : Nat} (m1 : 1 ≤ m) (h : Ab B N d) (hB : B ≤ 10000000000000000000000000000000000000000) (hA : opf .len [A] = some (.val (.int (m : Nat)))) {s4 s5 s6 : Slot} (h4 : s4 = .emp) (h5 : s5 = .emp) (h6 : s6 = .emp) :
    evSs Φ BD23_0 [.val A, .val F0, .val R0, .val d, s4, s5, s6] =
    if rwOk m d then .ok (.nx [.val A, .val F0, .val R0, .val d, s4, s5, s6]) else .ok (.rt (.val (.str "paper form")) [.val A, .val F0, .val R0, .val d, s4, s5, s6]) := by
  subst h4 h5 h6
  have t1 := h.isi_tup
  have pw := pow40
  cases ht : d.isT with
  | false =>
    rw [ht] at t1
    have e : rwOk m d = false := by cases d <;> first | rfl | cases ht
    rw [e]
    simp [BD23_0, t1]
  | true =>
    obtain ⟨xs, rfl⟩ := isT_eq ht
    rw [ht] at t1
    by_cases hl : xs.length = 2
    · obtain ⟨a, b, rfl⟩ : ∃ a b, xs = [a, b] := by
        match xs, hl with
        | [a, b], _ => exact ⟨a, b, rfl⟩
      have ha := h.item (x := a) (by simp)
      have hb := h.item (x := b) (by simp)
      have i0 : opf .ix [.tup [a, b], .int 0] = some (.val a) := rfl
      have i1 : opf .ix [.tup [a, b], .int 1] = some (.val b) := rfl
      have ln : opf .len [.tup [a, b]] = some (.val (.int 2)) := rfl
      have wa := hw B N a 0 ((m : Nat) - 1) ha
      have wb := hw B N b (-10000000000000000000000000000000000000000) 10000000000000000000000000000000000000000 hb
      cases ea : a.inR 0 ((m : Nat) - 1) with
      | false =>
        rw [ea] at wa
        have e : rwOk m (.tup [a, b]) = false := by
          unfold rwOk
          split
          · rename_i n p heq
            cases heq
            have ea' : (decide (0 ≤ n) && decide (n ≤ (m : Int) - 1)) = false := ea
            by_cases c1 : 0 ≤ n
            · have c2 : ¬ n < (m : Int) := fun z => by rw [decide_eq_true c1, decide_eq_true (by omega)] at ea'; cases ea'
              rw [decide_eq_false c2, Bool.and_false]
            · rw [decide_eq_false c1, Bool.false_and]
          · rfl
        rw [e]
        generalize D.tup [a, b] = X at *
        generalize ((m : Nat) : Int) = mi at *
        simp [BD23_0, t1, ln, i0, hA, wa]
      | true =>
        obtain ⟨n, rfl, c1, c2⟩ := inR_eq ea
        rw [ea] at wa
        cases eb : b.isN with
        | false =>
          rw [inR_isN eb] at wb
          have e : rwOk m (.tup [.int n, b]) = false := by cases b <;> first | rfl | cases eb
          rw [e]
          generalize D.tup [.int n, b] = X at *
          generalize ((m : Nat) : Int) = mi at *
          simp [BD23_0, t1, ln, i0, i1, hA, wa, pw, wb]
        | true =>
          obtain ⟨p, rfl⟩ := isN_eq eb
          have wr : (D.int p).inR (-10000000000000000000000000000000000000000) 10000000000000000000000000000000000000000 = true := by
            show (decide (-10000000000000000000000000000000000000000 ≤ p) && decide (p ≤ 10000000000000000000000000000000000000000)) = true
            cases hb with
            | int _ b1 b2 => rw [decide_eq_true (by omega), decide_eq_true (by omega)]; rfl
          rw [wr] at wb
          have e : rwOk m (.tup [.int n, .int p]) = true := by
            show (decide (0 ≤ n) && decide (n < (m : Int))) = true
            rw [decide_eq_true c1, decide_eq_true (by omega)]; rfl
          rw [e]
          generalize D.tup [.int n, .int p] = X at *
          generalize ((m : Nat) : Int) = mi at *
          simp [BD23_0, t1, ln, i0, i1, hA, wa, pw, wb]
    · have e : rwOk m (.tup xs) = false := by
        unfold rwOk
        split
        · rename_i heq; cases heq; exact absurd rfl hl
        · rfl
      have hl' : ¬ ((xs.length : Int) = 2) := by omega
      rw [e]
      simp [BD23_0, t1, hl']
/-- the second loop, by the law -/
theorem lk_loop (hw : wtI Φ 21) {S : List Stp} {F : List Fld} {Rw0 : List (Nat × Int)} (hl : Rw0.length = F.length) (hR : ∀ r ∈ Rw0, r.1 < S.length) {A F0 R0 : D} (hA : A = .tup (sd S)) (hF : F0 = .tup (fd F)) (hR0 : R0 = .tup (Rw0.map rD1)) {s3 : Slot} : ∀ (m i : Nat), i + m = Rw0.length → ∀ (u e : Int) (t4 : Slot), 
    ∃ x4 x5 x6, forR (fun x' ρ => (R.ofO (assignT (.name 4 false) (.val x') ρ)).bind fun ρ1 => evSs Φ BD23_1 ρ1) ((List.range' i m).map fun (j : Nat) => D.int j) [.val A, .val F0, .val R0, s3, t4, .val (.int u), .val (.int e)] =
      (match acL S ((Rw0.zip F).drop i) u e with
      | none => .ok (.nx [.val A, .val F0, .val R0, s3, x4, x5, x6])
      | some w => .ok (.rt (.val (.str ("paper " ++ w))) [.val A, .val F0, .val R0, s3, x4, x5, x6]))
  | 0, i, hi, u, e, t4 => by
    have hz : (Rw0.zip F).drop i = [] := List.drop_eq_nil_of_le (by rw [List.length_zip]; omega)
    exact ⟨t4, .val (.int u), .val (.int e), by rw [hz]; rfl⟩
  | m + 1, i, hi, u, e, t4 => by
    have iR : i < Rw0.length := by omega
    have iF : i < F.length := by omega
    have hz : (Rw0.zip F).drop i = (Rw0[i], F[i]) :: (Rw0.zip F).drop (i + 1) := by
      rw [List.drop_eq_getElem_cons (by rw [List.length_zip]; omega)]
      simp
    have hn : Rw0[i].1 < S.length := hR _ (List.getElem_mem iR)
    have xr : opf .ix [R0, .int (i : Nat)] = some (.val (rD1 Rw0[i])) := by rw [hR0, opf_ixT, atI_nat (v := rD1 Rw0[i]) (by rw [List.getElem?_map, List.getElem?_eq_getElem iR]; rfl)]; rfl
    have xf : opf .ix [F0, .int (i : Nat)] = some (.val F[i].d) := by rw [hF, opf_ixT, atI_nat (v := F[i].d) (by unfold fd; rw [List.getElem?_map, List.getElem?_eq_getElem iF]; rfl)]; rfl
    obtain ⟨i0, i1⟩ := row_ix (r := Rw0[i])
    obtain ⟨f0, f1⟩ := fl_ix (s := F[i])
    have ix : opf .ix [A, .int (Rw0[i].1 : Nat)] = some (.val (S.getD Rw0[i].1 ⟨0, .lf⟩).d) := by rw [hA, opf_ixT, sd_at (getD_at hn)]; rfl
    have wv := hw (S.getD Rw0[i].1 ⟨0, .lf⟩) F[i]
    rw [List.range'_succ, List.map_cons, hz]
    generalize hRi : Rw0[i] = r at *
    generalize hFi : F[i] = f at *
    obtain ⟨n, p⟩ := r
    have a1 : assignT (.name 4 false) (.val (.int (i : Nat))) [.val A, .val F0, .val R0, s3, t4, .val (.int u), .val (.int e)] = some [.val A, .val F0, .val R0, s3, .val (.int (i : Nat)), .val (.int u), .val (.int e)] := rfl
    have mx2 : ∀ wt : Int, opf .max [.lst [.int e, .int wt]] = some (.val (.int (if wt > e then wt else e))) := fun wt => opf_maxL
    have st : evSs Φ BD23_1 [.val A, .val F0, .val R0, s3, .val (.int (i : Nat)), .val (.int u), .val (.int e)] =
      if (n : Int) ≤ u then .ok (.rt (.val (.str "paper stop")) [.val A, .val F0, .val R0, s3, .val (.int (i : Nat)), .val (.int u), .val (.int e)])
      else if p < e ∨ p < wtd (S.getD n ⟨0, .lf⟩) f then .ok (.rt (.val (.str "paper place")) [.val A, .val F0, .val R0, s3, .val (.int (i : Nat)), .val (.int u), .val (.int e)])
      else .ok (.nx [.val A, .val F0, .val R0, s3, .val (.int (i : Nat)), .val (.int (n : Nat)), .val (.int (p + f.w))]) := by
      clear hA hF hR0 a1 hz
      dsimp only at i0 i1 ix wv
      have mxw := mx2 (wtd (S.getD n ⟨0, .lf⟩) f)
      have pe : (p < (if wtd (S.getD n ⟨0, .lf⟩) f > e then wtd (S.getD n ⟨0, .lf⟩) f else e)) = (p < e ∨ p < wtd (S.getD n ⟨0, .lf⟩) f) := by
        apply propext
        split <;> omega
      generalize (S.getD n ⟨0, .lf⟩).d = X at *
      generalize wtd (S.getD n ⟨0, .lf⟩) f = wt at *
      generalize (if wt > e then wt else e) = mxv at *
      generalize rD1 (n, p) = Rw at *
      generalize f.d = FD at *
      generalize ((n : Nat) : Int) = ni at *
      generalize ((i : Nat) : Int) = ii at *
      by_cases c1 : ni ≤ u
      · simp [BD23_1, xr, i0, c1]
      · by_cases c2 : p < mxv
        · have c2' := c2
          rw [pe] at c2'
          simp [BD23_1, xr, xf, i0, i1, c1, ix, wv, mxw, c2, c2', -opf_maxL]
        · have c2' := c2
          rw [pe] at c2'
          simp [BD23_1, xr, xf, i0, i1, f0, c1, ix, wv, mxw, c2, c2', -opf_maxL]
    by_cases c1 : (n : Int) ≤ u
    · rw [if_pos c1] at st
      refine ⟨.val (.int (i : Nat)), .val (.int u), .val (.int e), ?_⟩
      rw [show acL S (((n, p), f) :: (Rw0.zip F).drop (i + 1)) u e = some ("stop" : Str) by rw [acL, if_pos c1]]
      exact forR_rt (stepR (Φ := Φ) a1 st)
    · rw [if_neg c1] at st
      by_cases c2 : p < e ∨ p < wtd (S.getD n ⟨0, .lf⟩) f
      · rw [if_pos c2] at st
        refine ⟨.val (.int (i : Nat)), .val (.int u), .val (.int e), ?_⟩
        rw [show acL S (((n, p), f) :: (Rw0.zip F).drop (i + 1)) u e = some ("place" : Str) by rw [acL, if_neg c1, if_pos c2]]
        exact forR_rt (stepR (Φ := Φ) a1 st)
      · rw [if_neg c2] at st
        obtain ⟨x4, x5, x6, ih⟩ := lk_loop hw hl hR hA hF hR0 (s3 := s3) m (i + 1) (by omega) (n : Nat) (p + f.w) (.val (.int (i : Nat)))
        refine ⟨x4, x5, x6, ?_⟩
        rw [show acL S (((n, p), f) :: (Rw0.zip F).drop (i + 1)) u e = acL S ((Rw0.zip F).drop (i + 1)) (n : Nat) (p + f.w) by rw [acL, if_neg c1, if_neg c2], ← ih]
        exact forR_nx (stepR (Φ := Φ) a1 st)
end W
namespace W
open PySem DL L2
variable {k : Nat} {Φ : Nat → Fn} {B : Int} {N : Nat}
def dueD : Option Str → D
  | none => .lst [.non]
  | some w => .str ("paper " ++ w)
theorem body23 (hw : aW Φ) (hww : wtI Φ 21) {S : List Stp} (hS : Sps S) {F : List Fld} (hF : Fds F) {d : D} (h : Ab B N d) (hB : B ≤ 10000000000000000000000000000000000000000) :
    runD Φ D23 [.tup (sd S), .tup (fd F), d] = .ok (.val (dueD (acD2 S F d)), []) := by
  have t1 := h.isi_tup
  have lS : opf .len [.tup (sd S)] = some (.val (.int (S.length : Nat))) := by rw [opf_lenT, sd_len]
  have lF : opf .len [.tup (fd F)] = some (.val (.int (F.length : Nat))) := by rw [opf_lenT, fd_len]
  have fl : F.length ≤ 20 := hF.l1
  cases ht : d.isT with
  | false =>
    rw [ht] at t1
    have e : acD2 S F d = some ("form" : Str) := by unfold acD2; rw [show rwsOk S.length F.length d = false by cases d <;> first | rfl | cases ht]; rfl
    rw [e]
    show _ = R.ok (Slot.val (.str "paper form"), [])
    refine runD_rt (d := D23) (ds := [.tup (sd S), .tup (fd F), d]) (ρ := [.val (.tup (sd S)), .val (.tup (fd F)), .val d, .emp, .emp, .emp, .emp]) (t := .val (.str "paper form")) rfl ?_ rfl rfl
    generalize D.tup (sd S) = A at *
    generalize D.tup (fd F) = FF at *
    simp [D23, n23, t1]
  | true =>
    obtain ⟨xs, rfl⟩ := isT_eq ht
    rw [ht] at t1
    have ln : opf .len [.tup xs] = some (.val (.int (xs.length : Nat))) := rfl
    by_cases hl : xs.length = F.length
    · have hl' : ((xs.length : Nat) : Int) = ((F.length : Nat) : Int) := by omega
      have fr := for_ck (Φ := Φ) (t := .name 3 false) (k := .it) (src := [.var 2]) (b := BD23_0) (ρ := [.val (.tup (sd S)), .val (.tup (fd F)), .val (.tup xs), .emp, .emp, .emp, .emp]) (ρ1 := [.val (.tup (sd S)), .val (.tup (fd F)), .val (.tup xs), .emp, .emp, .emp, .emp]) (ds := [.tup xs]) (xs := xs)
        (fun (_ : Unit) ρ => ∃ t3, ρ = [.val (.tup (sd S)), .val (.tup (fd F)), .val (.tup xs), t3, .emp, .emp, .emp]) (fun _ x => if rwOk S.length x then some () else none)
        (fun r => ∃ t3, r = .ok (.rt (.val (.str "paper form")) [.val (.tup (sd S)), .val (.tup (fd F)), .val (.tup xs), t3, .emp, .emp, .emp])) () rfl rfl (fun r ⟨a, e⟩ => .inl ⟨_, _, e⟩) (fun x hx a ρ ⟨t3, hρ⟩ => by
          subst hρ
          refine ⟨[.val (.tup (sd S)), .val (.tup (fd F)), .val (.tup xs), .val x, .emp, .emp, .emp], rfl, ?_⟩
          have z := lk_row (Φ := Φ) hw hS.l0 (h.item hx) hB (A := .tup (sd S)) (F0 := .tup (fd F)) (R0 := .tup xs) lS (s4 := .emp) (s5 := .emp) (s6 := .emp) rfl rfl rfl
          cases e : rwOk S.length x with
          | false => rw [e] at z; exact ⟨_, z⟩
          | true => rw [e] at z; exact ⟨_, z, _, rfl⟩) ⟨.emp, rfl⟩
      have gen : ∀ l : List D, l.foldlM (fun (_ : Unit) x => if rwOk S.length x then some () else none) () = if l.all (rwOk S.length) then some () else none := by
        intro l
        induction l with
        | nil => rfl
        | cons a l ih =>
          rw [List.foldlM_cons, List.all_cons]
          cases ha : rwOk S.length a with
          | false => rfl
          | true =>
            rw [Bool.true_and, ← ih]
            rfl
      rw [gen] at fr
      cases hx : xs.all (rwOk S.length) with
      | false =>
        rw [hx] at fr
        obtain ⟨t3, f1⟩ := fr
        have f1' : evS Φ FR23_0 _ = _ := f1
        have e : acD2 S F (.tup xs) = some ("form" : Str) := by
          unfold acD2
          rw [show rwsOk S.length F.length (.tup xs) = (decide (xs.length = F.length) && xs.all (rwOk S.length)) from rfl, hx, Bool.and_false]
          rfl
        rw [e]
        show _ = R.ok (Slot.val (.str "paper form"), [])
        refine runD_rt (d := D23) (ds := [.tup (sd S), .tup (fd F), .tup xs]) (ρ := [.val (.tup (sd S)), .val (.tup (fd F)), .val (.tup xs), t3, .emp, .emp, .emp]) (t := .val (.str "paper form")) rfl ?_ rfl rfl
        generalize D.tup (sd S) = A at *
        generalize D.tup (fd F) = FF at *
        generalize ((xs.length : Nat) : Int) = li at *
        generalize ((F.length : Nat) : Int) = fi at *
        generalize D.tup xs = X at *
        simp [D23, n23, t1, ln, lF, hl', f1']
      | true =>
        rw [hx] at fr
        obtain ⟨ρ', f1, t3, f2⟩ := fr
        subst f2
        have f1' : evS Φ FR23_0 _ = _ := f1
        have ok : rwsOk S.length F.length (.tup xs) = true := by
          show (decide (xs.length = F.length) && xs.all (rwOk S.length)) = true
          rw [hx, decide_eq_true hl]; rfl
        have e : acD2 S F (.tup xs) = acL S ((xs.map toR).zip F) (-1) 0 := by
          unfold acD2
          rw [ok]
          rfl
        rw [e]
        have ha := List.all_eq_true.mp hx
        have ex : xs = (xs.map toR).map rD1 := by
          rw [List.map_map]
          conv => lhs; rw [← List.map_id xs]
          exact List.map_congr_left fun x hx => (rwOk_eq (ha x hx)).1
        have hRl : (xs.map toR).length = F.length := by rw [List.length_map]; exact hl
        obtain ⟨x4, x5, x6, al⟩ := lk_loop (Φ := Φ) hww hRl (fun r hr => by
          obtain ⟨x, hx, e⟩ := List.mem_map.mp hr
          rw [← e]
          exact (rwOk_eq (ha x hx)).2) (A := .tup (sd S)) (F0 := .tup (fd F)) (R0 := .tup xs) rfl rfl (by rw [← ex]) (s3 := t3) xs.length 0 (by rw [List.length_map]; omega) (-1) 0 .emp
        have fe := for_eq (Φ := Φ) (t := .name 4 false) (k := .rng) (src := [.op .len [.var 2]]) (b := BD23_1) (ρ := [.val (.tup (sd S)), .val (.tup (fd F)), .val (.tup xs), t3, .emp, .val (.int (-1)), .val (.int 0)]) (ρ1 := [.val (.tup (sd S)), .val (.tup (fd F)), .val (.tup xs), t3, .emp, .val (.int (-1)), .val (.int 0)]) (ds := [.int (xs.length : Nat)]) (xs := (List.range' 0 xs.length).map fun (j : Nat) => D.int j) (by
          generalize D.tup (sd S) = A at *
          generalize D.tup (fd F) = FF at *
          simp) (by rw [← List.range_eq_range']; exact rng1 (by omega) rfl)
        have fe' : evS Φ FR23_1 _ = _ := fe.trans al
        rw [List.drop_zero] at fe'
        cases hac : acL S ((xs.map toR).zip F) (-1) 0 with
        | none =>
          rw [hac] at fe'
          show _ = R.ok (Slot.val (.lst [.non]), [])
          refine runD_rt (d := D23) (ds := [.tup (sd S), .tup (fd F), .tup xs]) (ρ := [.val (.tup (sd S)), .val (.tup (fd F)), .val (.tup xs), t3, x4, x5, x6]) (t := .own (.lst [.non])) rfl ?_ rfl rfl
          generalize D.tup (sd S) = A at *
          generalize D.tup (fd F) = FF at *
          generalize ((xs.length : Nat) : Int) = li at *
          generalize ((F.length : Nat) : Int) = fi at *
          generalize D.tup xs = X at *
          simp [D23, n23, t1, ln, lF, hl', f1', fe']
        | some w =>
          rw [hac] at fe'
          show _ = R.ok (Slot.val (.str ("paper " ++ w)), [])
          refine runD_rt (d := D23) (ds := [.tup (sd S), .tup (fd F), .tup xs]) (ρ := [.val (.tup (sd S)), .val (.tup (fd F)), .val (.tup xs), t3, x4, x5, x6]) (t := .val (.str ("paper " ++ w))) rfl ?_ rfl rfl
          generalize D.tup (sd S) = A at *
          generalize D.tup (fd F) = FF at *
          generalize ((xs.length : Nat) : Int) = li at *
          generalize ((F.length : Nat) : Int) = fi at *
          generalize D.tup xs = X at *
          simp [D23, n23, t1, ln, lF, hl', f1', fe']
    · have hl' : ¬ ((xs.length : Nat) : Int) = ((F.length : Nat) : Int) := by omega
      have e : acD2 S F (.tup xs) = some ("form" : Str) := by
        unfold acD2
        rw [show rwsOk S.length F.length (.tup xs) = (decide (xs.length = F.length) && xs.all (rwOk S.length)) from rfl, decide_eq_false hl, Bool.false_and]
        rfl
      rw [e]
      show _ = R.ok (Slot.val (.str "paper form"), [])
      refine runD_rt (d := D23) (ds := [.tup (sd S), .tup (fd F), .tup xs]) (ρ := [.val (.tup (sd S)), .val (.tup (fd F)), .val (.tup xs), .emp, .emp, .emp, .emp]) (t := .val (.str "paper form")) rfl ?_ rfl rfl
      generalize D.tup (sd S) = A at *
      generalize D.tup (fd F) = FF at *
      generalize ((xs.length : Nat) : Int) = li at *
      generalize ((F.length : Nat) : Int) = fi at *
      generalize D.tup xs = X at *
      simp [D23, n23, t1, ln, lF, hl']
end W
namespace W
open PySem DL L2
variable {k : Nat} {Φ : Nat → Fn} {B : Int} {N : Nat}
/-! ## the papers -/
structure Pz (Φ : Nat → Fn) : Prop where
  dw : Draws Φ
  stp : ∀ (st : D) (m top : Int), IsSt st → 1 ≤ m → m ≤ 20 → 1 ≤ top → top ≤ 100001 → ∃ (S : List Stp) (st' : D), Φ 19 [st, .int m, .int top] = .ok (.val (.tup (sd S)), [st']) ∧ Sps S ∧ IsSt st'
  fld : ∀ (st : D) (m top : Int), IsSt st → 0 ≤ m → m ≤ 20 → 1 ≤ top → top ≤ 100001 → ∃ (F : List Fld) (st' : D), Φ 20 [st, .int m, .int top] = .ok (.val (.tup (fd F)), [st']) ∧ Fds F ∧ IsSt st'
  set : ∀ (S : List Stp) (F : List Fld), Sps S → Fds F → Φ 22 [.tup (sd S), .tup (fd F)] = .ok (.val (.tup (rws (sf S F 0 0))), [])
  bt : Bt Φ 2
  ask : ∀ (S : List Stp) (F : List Fld) (d : D), Sps S → Fds F → Ab 10000000 100 d → Φ 15 [.fn "accept_fields", .lst [.tup (sd S), .tup (fd F), d]] = .ok (.val (dueD (acD2 S F d)), [])
  due : ∀ (S : List Stp) (F : List Fld) (d : D), Sps S → Fds F → Ab 10000000 100 d → Φ 23 [.tup (sd S), .tup (fd F), d] = .ok (.val (dueD (acD2 S F d)), [])
  sm : ∀ d : D, reprOk d = true → Φ 14 [d, d] = .ok (.val (.bl true), [])
theorem acL_mem {S : List Stp} : ∀ (L : List ((Nat × Int) × Fld)) (u e : Int), acL S L u e = none ∨ acL S L u e = some ("stop" : Str) ∨ acL S L u e = some ("place" : Str)
  | [], _, _ => .inl rfl
  | ((n, p), f) :: r, u, e => by
    by_cases c1 : (n : Int) ≤ u
    · rw [acL, if_pos c1]; exact .inr (.inl rfl)
    · by_cases c2 : p < e ∨ p < wtd (S.getD n ⟨0, .lf⟩) f
      · rw [acL, if_neg c1, if_pos c2]; exact .inr (.inr rfl)
      · rw [acL, if_neg c1, if_neg c2]; exact acL_mem r _ _
theorem due_ok {S : List Stp} {F : List Fld} {d : D} : reprOk (dueD (acD2 S F d)) = true := by
  have f1 : reprOk (dueD none) = true := by decide +kernel
  have f2 : reprOk (dueD (some "form")) = true := by decide +kernel
  have f3 : reprOk (dueD (some "stop")) = true := by decide +kernel
  have f4 : reprOk (dueD (some "place")) = true := by decide +kernel
  unfold acD2
  split
  · rcases acL_mem (S := S) ((d.its.map toR).zip F) (-1) 0 with e | e | e <;> rw [e]
    · exact f1
    · exact f3
    · exact f4
  · exact f2
def i2 (r : Int × Int) : D := .tup [.int r.1, .int r.2]
def I2 (b : Int) (r : Int × Int) : Prop := -b ≤ r.1 ∧ r.1 ≤ b ∧ -b ≤ r.2 ∧ r.2 ≤ b
theorem i2_ab {b : Int} {n : Nat} (hn : 2 ≤ n) {L : List (Int × Int)} (h : ∀ r ∈ L, I2 b r) (hl : L.length ≤ n) : Ab b n (.tup (L.map i2)) := .tup _ (by simpa using hl) fun x hx => by
  obtain ⟨r, hr, rfl⟩ := List.mem_map.mp hx
  obtain ⟨h1, h2, h3, h4⟩ := h r hr
  refine .tup _ (by simpa using hn) fun y hy => ?_
  simp at hy
  rcases hy with rfl | rfl
  · exact .int _ h1 h2
  · exact .int _ h3 h4
def ofRow (m : Int) : Option (Nat × Int) → Int × Int
  | some (n, p) => ((n : Nat), p)
  | none => (m, 99)
theorem row_i2 {m : Int} {o : Option (Nat × Int)} (h : o.isSome = true) : rowD o = i2 (ofRow m o) := by
  cases o with
  | none => cases h
  | some q => rfl
theorem rows_ev (hset : ∀ (S : List Stp) (F : List Fld), Sps S → Fds F → Φ 22 [.tup (sd S), .tup (fd F)] = .ok (.val (.tup (rws (sf S F 0 0))), [])) {S : List Stp} (hS : Sps S) {F : List Fld} (hF : Fds F) {s0 s1 s2 s3 s6 : Slot} :
    ev Φ LC24_0 [s0, s1, s2, s3, .val (.tup (sd S)), .val (.tup (fd F)), s6, .emp] = .ok (.own (.lst ((sf S F 0 0).map fun o => i2 (ofRow ((S.length : Nat) - 1) o))), [s0, s1, s2, s3, .val (.tup (sd S)), .val (.tup (fd F)), s6, .emp]) := by
  have e := hset S F hS hF
  have lS : opf .len [.tup (sd S)] = some (.val (.int (S.length : Nat))) := by rw [opf_lenT, sd_len]
  exact lc_ty0S (Φ := Φ) (vs := [7]) (t := .name 7 false) (k := .it) (src := [.call 22 [false, false] [.var 4, .var 5]]) (elt := EL24_0) (ρ := [s0, s1, s2, s3, .val (.tup (sd S)), .val (.tup (fd F)), s6, .emp]) [.tup (rws (sf S F 0 0))] (sf S F 0 0) rowD (fun o => i2 (ofRow ((S.length : Nat) - 1) o)) (by
      generalize rws (sf S F 0 0) = RW at *
      generalize D.tup (sd S) = A at *
      generalize D.tup (fd F) = FF at *
      simp [e]) rfl rfl rfl
    (fun o ho => ⟨[s0, s1, s2, s3, .val (.tup (sd S)), .val (.tup (fd F)), s6, .val (rowD o)], rfl, by
      cases o with
      | none =>
        show rel (ev Φ EL24_0 [s0, s1, s2, s3, .val (.tup (sd S)), .val (.tup (fd F)), s6, .val .non]) = .ok (.tup [.int ((S.length : Nat) - 1), .int 99], _)
        generalize ((S.length : Nat) : Int) = li at *
        generalize D.tup (sd S) = A at *
        generalize D.tup (fd F) = FF at *
        simp [EL24_0, lS]
        try rfl
      | some q =>
        have hr := row_i2 (m := (S.length : Nat) - 1) (o := some q) rfl
        rw [← hr]
        have hn : (rowD (some q)).isNon = false := rfl
        generalize rowD (some q) = X at *
        generalize D.tup (sd S) = A at *
        generalize D.tup (fd F) = FF at *
        simp [EL24_0, hn], rfl⟩) (by have := sf_len (S := S) F 0 0; have := hF.l1; show _ ≤ 16777216; omega)
/-- rows moved a little -/
theorem moved_ev (dw : Draws Φ) {L : List (Int × Int)} {b : Int} (hb : ∀ r ∈ L, I2 b r) (hl : L.length ≤ 100) {st : D} (hs : IsSt st) {s1 s3 s4 s5 s6 : Slot} :
    ∃ (M : List (Int × Int)) (st' : D), ev Φ LC24_1 [.io st, s1, .val (.tup (L.map i2)), s3, s4, s5, s6, .emp] = .ok (.own (.lst (M.map i2)), [.io st', s1, .val (.tup (L.map i2)), s3, s4, s5, s6, .emp]) ∧ (∀ r ∈ M, I2 (b + 2) r) ∧ M.length = L.length ∧ IsSt st' := by
  obtain ⟨M, ρ', e1, ⟨st', h1, h2⟩, e3, e4⟩ := lc_ex (Φ := Φ) (vs := [7]) (t := .name 7 false) (k := .it) (src := [.var 2]) (elt := EL24_1) (ρ := [.io st, s1, .val (.tup (L.map i2)), s3, s4, s5, s6, .emp]) (ρ1 := [.io st, s1, .val (.tup (L.map i2)), s3, s4, s5, s6, .emp]) (ds := [.tup (L.map i2)]) L i2 i2
    (fun ρ => ∃ st', IsSt st' ∧ ρ = [.io st', s1, .val (.tup (L.map i2)), s3, s4, s5, s6, .emp]) (I2 (b + 2)) rfl rfl rfl (fun r hr ρ ⟨st1, h1, hρ⟩ => by
      subst hρ
      obtain ⟨v, s2', e1, v0, v1, h2⟩ := dw.dr st1 2 (by omega) (by omega) h1
      obtain ⟨w, s3', e2, w0, w1, h3⟩ := dw.dr s2' 3 (by omega) (by omega) h2
      have i0 : opf .ix [i2 r, .int 0] = some (.val (.int r.1)) := rfl
      have i1 : opf .ix [i2 r, .int 1] = some (.val (.int r.2)) := rfl
      refine ⟨[.io st1, s1, .val (.tup (L.map i2)), s3, s4, s5, s6, .val (i2 r)], (r.1 + v, r.2 + w), [.io s3', s1, .val (.tup (L.map i2)), s3, s4, s5, s6, .val (i2 r)], rfl, ?_, ?_, s3', h3, rfl⟩
      · show _ = R.ok (D.tup [.int (r.1 + v), .int (r.2 + w)], _)
        generalize D.tup (L.map i2) = X at *
        generalize i2 r = Y at *
        simp [EL24_1, i0, i1, e1, e2]
      · obtain ⟨q1, q2, q3, q4⟩ := hb r hr
        exact ⟨by dsimp only; omega, by dsimp only; omega, by dsimp only; omega, by dsimp only; omega⟩) ⟨st, hs, rfl⟩ (by show _ ≤ 16777216; omega)
  subst h2
  exact ⟨M, st', e1, e3, e4, h1⟩
end W
namespace W
open PySem DL L2
variable {k : Nat} {Φ : Nat → Fn} {B : Int} {N : Nat}
theorem rep_tup {x : D} {n : Nat} (h : n ≤ 1000) : binf .Mult (.tup [x]) (.int (n : Nat)) = some (.val (.tup (List.replicate n x))) := by
  show (if _ then _ else _) = _
  rw [if_pos ⟨rfl, by omega, by show 1 ≤ 1000; omega⟩]
  have e : ∀ m : Nat, (List.replicate m [x]).flatten = List.replicate m x := fun m => by
    induction m with
    | zero => rfl
    | succ m ih => rw [List.replicate_succ, List.flatten_cons, ih, List.replicate_succ]; rfl
  rw [Int.toNat_natCast, e]
theorem sf_i2 {S : List Stp} {F : List Fld} (hS : Sps S) (hF : Fds F) : ∀ r ∈ (sf S F 0 0).map (ofRow ((S.length : Nat) - 1)), I2 5000000 r := fun r hr => by
  obtain ⟨o, ho, rfl⟩ := List.mem_map.mp hr
  have := hS.l1
  have := hS.l0
  have := hF.l1
  cases o with
  | none => unfold ofRow; exact ⟨by dsimp only; omega, by dsimp only; omega, by dsimp only; omega, by dsimp only; omega⟩
  | some q =>
    obtain ⟨n, p⟩ := q
    have h1 := sf_mem F 0 0 n p ho
    have h2 := sf_b hS F 0 0 (fun f hf => ⟨hF.a0 f hf, hF.aw f hf, hF.w1 f hf⟩) (by omega) n p ho
    unfold ofRow
    exact ⟨by dsimp only; omega, by dsimp only; omega, by dsimp only; omega, by dsimp only; omega⟩
theorem papers_turn (z : Pz Φ) {S : List Stp} (hS : Sps S) {F : List Fld} (hF : Fds F) {L : List (Int × Int)} (hb : ∀ r ∈ L, I2 5000000 r) (hl : L.length ≤ 40) {st : D} (hs : IsSt st) {s1 s6 : Slot} (i : Nat) (hi : i < 8) :
    ∃ (st' : D) (s6' : Slot), evSs Φ BD24_2 [.io st, s1, .val (.tup (L.map i2)), .val (.int (i : Nat)), .val (.tup (sd S)), .val (.tup (fd F)), s6, .emp] = .ok (.nx [.io st', s1, .val (.tup (L.map i2)), .val (.int (i : Nat)), .val (.tup (sd S)), .val (.tup (fd F)), s6', .emp]) ∧ IsSt st' := by
  have fin : ∀ d : D, Ab 10000000 100 d → Φ 15 [.fn "accept_fields", .lst [.tup (sd S), .tup (fd F), d]] = .ok (.val (dueD (acD2 S F d)), []) ∧ Φ 23 [.tup (sd S), .tup (fd F), d] = .ok (.val (dueD (acD2 S F d)), []) ∧ Φ 14 [dueD (acD2 S F d), dueD (acD2 S F d)] = .ok (.val (.bl true), []) := fun d hd => ⟨z.ask S F d hS hF hd, z.due S F d hS hF hd, z.sm _ due_ok⟩
  have lab : Ab 10000000 100 (.tup (L.map i2)) := (i2_ab (n := 100) (b := 5000000) (by omega) hb (by omega)).mono (by omega) (by omega)
  by_cases c0 : i = 0
  · subst c0
    obtain ⟨f1, f2, f3⟩ := fin _ lab
    refine ⟨st, .val (.tup (L.map i2)), ?_, hs⟩
    generalize dueD (acD2 S F (.tup (L.map i2))) = Q at *
    generalize D.tup (sd S) = A at *
    generalize D.tup (fd F) = FF at *
    generalize D.tup (L.map i2) = X at *
    simp [BD24_2, f1, f2, f3]
  · have ci : (0 : Int) < (i : Nat) := by omega
    by_cases c5 : i < 5
    · have c5' : ((i : Nat) : Int) < 5 := by omega
      obtain ⟨d, st', e, hd, hs'⟩ := z.bt 5000000 40 (.tup (L.map i2)) st (i2_ab (by omega) hb hl) (by omega) (by omega) (by omega) hs
      have e : Φ 18 [st, .tup (L.map i2), .int 2] = _ := e
      obtain ⟨f1, f2, f3⟩ := fin d (hd.mono (by omega) (by omega))
      refine ⟨st', .val d, ?_, hs'⟩
      generalize dueD (acD2 S F d) = Q at *
      generalize D.tup (sd S) = A at *
      generalize D.tup (fd F) = FF at *
      generalize D.tup (L.map i2) = X at *
      generalize ((i : Nat) : Int) = ii at *
      simp [BD24_2, ci, c5', e, f1, f2, f3]
    · have c5' : ¬ ((i : Nat) : Int) < 5 := by omega
      obtain ⟨M, st', e, hm, hml, hs'⟩ := moved_ev z.dw hb (by omega) hs (s1 := s1) (s3 := .val (.int (i : Nat))) (s4 := .val (.tup (sd S))) (s5 := .val (.tup (fd F))) (s6 := .val (.tup (L.map i2)))
      obtain ⟨f1, f2, f3⟩ := fin (.tup (M.map i2)) ((i2_ab (n := 100) (by omega) hm (by omega)).mono (by omega) (by omega))
      refine ⟨st', .val (.tup (M.map i2)), ?_, hs'⟩
      generalize dueD (acD2 S F (.tup (M.map i2))) = Q at *
      generalize D.tup (sd S) = A at *
      generalize D.tup (fd F) = FF at *
      generalize D.tup (L.map i2) = X at *
      generalize ((i : Nat) : Int) = ii at *
      generalize M.map i2 = MM at *
      simp [BD24_2, ci, c5', e, f1, f2, f3]
theorem body24 (z : Pz Φ) {st : D} (hs : IsSt st) : ∃ st', runD Φ D24 [st] = .ok (.val (.bl true), [st']) ∧ IsSt st' := by
  obtain ⟨top, s1, e1, ht, h1⟩ := z.dw.pi st [9, 60] (by simp) (by simp) hs
  have e1 : Φ 13 [st, .lst [.int 9, .int 60]] = _ := e1
  have ht' : 1 ≤ top ∧ top ≤ 100001 := by simp at ht; omega
  obtain ⟨S, s2, e2, hS, h2⟩ := z.stp s1 12 top h1 (by omega) (by omega) ht'.1 ht'.2
  obtain ⟨fw, s3, e3, hf, h3⟩ := z.dw.pi s2 [3, 12] (by simp) (by simp) h2
  have e3 : Φ 13 [s2, .lst [.int 3, .int 12]] = _ := e3
  have hf' : 1 ≤ fw ∧ fw ≤ 100001 := by simp at hf; omega
  obtain ⟨F, s4, e4, hF, h4⟩ := z.fld s3 5 fw h3 (by omega) (by omega) hf'.1 hf'.2
  have e5 := rows_ev z.set hS hF (s0 := .io s4) (s1 := .val (.int top)) (s2 := .emp) (s3 := .emp) (s6 := .emp)
  have lS : opf .len [.tup (sd S)] = some (.val (.int (S.length : Nat))) := by rw [opf_lenT, sd_len]
  have lF : opf .len [.tup (fd F)] = some (.val (.int (F.length : Nat))) := by rw [opf_lenT, fd_len]
  have lR : opf .len [.tup ((sf S F 0 0).map fun o => i2 (ofRow ((S.length : Nat) - 1) o))] = some (.val (.int ((sf S F 0 0).length : Nat))) := by rw [opf_lenT, List.length_map]
  have hsl := sf_len (S := S) F 0 0
  have hFl := hF.l1
  have hS0 := hS.l0
  have hS1 := hS.l1
  obtain ⟨n, hn⟩ : ∃ n : Nat, F.length = (sf S F 0 0).length + n := ⟨F.length - (sf S F 0 0).length, by omega⟩
  have hd : ((F.length : Nat) : Int) - ((sf S F 0 0).length : Nat) = (n : Nat) := by omega
  have mu : binf .Mult (.tup [.tup [.int ((S.length : Nat) - 1), .int 500]]) (.int (n : Nat)) = some (.val (.tup (List.replicate n (.tup [.int ((S.length : Nat) - 1), .int 500])))) := rep_tup (by omega)
  have ap := bin_apT (xs := (sf S F 0 0).map fun o => i2 (ofRow ((S.length : Nat) - 1) o)) (ys := List.replicate n (.tup [.int ((S.length : Nat) - 1), .int 500])) (by rw [List.length_map, List.length_replicate]; show _ ≤ 16777216; omega)
  have eL : ((sf S F 0 0).map fun o => i2 (ofRow ((S.length : Nat) - 1) o)) ++ List.replicate n (.tup [.int ((S.length : Nat) - 1), .int 500]) = ((sf S F 0 0).map (ofRow ((S.length : Nat) - 1)) ++ List.replicate n (((S.length : Nat) : Int) - 1, (500 : Int))).map i2 := by
    rw [List.map_append, List.map_map, List.map_replicate]; rfl
  rw [eL] at ap
  have hb : ∀ r ∈ ((sf S F 0 0).map (ofRow ((S.length : Nat) - 1)) ++ List.replicate n (((S.length : Nat) : Int) - 1, (500 : Int))), I2 5000000 r := fun r hr => by
    rcases List.mem_append.mp hr with hr | hr
    · exact sf_i2 hS hF r hr
    · rw [List.eq_of_mem_replicate hr]; exact ⟨by dsimp only; omega, by dsimp only; omega, by dsimp only; omega, by dsimp only; omega⟩
  have hl : ((sf S F 0 0).map (ofRow ((S.length : Nat) - 1)) ++ List.replicate n (((S.length : Nat) : Int) - 1, (500 : Int))).length ≤ 40 := by rw [List.length_append, List.length_map, List.length_replicate]; omega
  generalize ((sf S F 0 0).map (ofRow ((S.length : Nat) - 1)) ++ List.replicate n (((S.length : Nat) : Int) - 1, (500 : Int))) = L at *
  obtain ⟨ρ', f1, st', t3, t6, f2, hs', _⟩ := for_ty (Φ := Φ) (t := .name 3 false) (k := .rng) (src := [.lit (.int 8)]) (b := BD24_2)
    (ρ := [.io s4, .val (.int top), .val (.tup (L.map i2)), .emp, .val (.tup (sd S)), .val (.tup (fd F)), .emp, .emp]) (ρ1 := [.io s4, .val (.int top), .val (.tup (L.map i2)), .emp, .val (.tup (sd S)), .val (.tup (fd F)), .emp, .emp]) (ds := [.int 8]) (List.range 8) (fun (i : Nat) => D.int i)
    (fun _ ρ => ∃ st t3 t6, ρ = [.io st, .val (.int top), .val (.tup (L.map i2)), t3, .val (.tup (sd S)), .val (.tup (fd F)), t6, .emp] ∧ IsSt st ∧ True) rfl (rng1 (by omega) rfl) (fun pre i post ρ h ⟨st, t3, t6, hρ, hst, _⟩ => by
      subst hρ
      have hi : i < 8 := by
        have : i ∈ List.range 8 := by rw [h]; simp
        exact List.mem_range.mp this
      obtain ⟨st', t6', e, hst'⟩ := papers_turn z hS hF hb hl hst (s1 := .val (.int top)) (s6 := t6) i hi
      exact ⟨[.io st, .val (.int top), .val (.tup (L.map i2)), .val (.int (i : Nat)), .val (.tup (sd S)), .val (.tup (fd F)), t6, .emp], _, rfl, .inl e, st', _, _, rfl, hst', trivial⟩) ⟨s4, _, _, rfl, h4, trivial⟩
  subst f2
  have f1' : evS Φ FR24_2 _ = _ := f1
  refine ⟨st', ?_, hs'⟩
  refine runD_rt (d := D24) (ds := [st]) (ρ := [.io st', .val (.int top), .val (.tup (L.map i2)), t3, .val (.tup (sd S)), .val (.tup (fd F)), t6, .emp]) (t := .val (.bl true)) rfl ?_ rfl rfl
  have cl : ((S.length : Nat) : Int) - 1 = ((S.length - 1 : Nat) : Nat) := by omega
  generalize ((S.length : Nat) : Int) = si at *
  generalize ((F.length : Nat) : Int) = fi at *
  generalize (((sf S F 0 0).length : Nat) : Int) = ri at *
  generalize ((sf S F 0 0).map fun o => i2 (ofRow (si - 1) o)) = RR at *
  generalize hsi : si - 1 = s1i at *
  generalize hni : ((n : Nat) : Int) = ni at *
  generalize D.tup (sd S) = A at *
  generalize D.tup (fd F) = FF at *
  generalize List.replicate n (D.tup [.int s1i, .int 500]) = Rp at *
  generalize D.tup (L.map i2) = X at *
  simp [D24, n24, e1, e2, e3, e4, e5, lS, lF, lR, hd, hsi, mu, ap, f1']
end W
namespace W
open PySem DL L2
variable {k : Nat} {Φ : Nat → Fn} {B : Int} {N : Nat}
theorem assign_lst {s : Slot} {ρ : Sts} {ts : List T} {xs : List D} : assignT (.tup ts) (.val (.lst xs)) (s :: ρ) = if xs.length = ts.length then assignTs ts xs (s :: ρ) else none := Eq.trans rfl rfl
/-! ## what is due -/
def badW (way : Nat) (s f r g b e o : D) : Option Str :=
  if way < 4 then (if (pS s).isSome then (if (pF f).isSome then none else some "fields") else some "stops")
  else if way = 4 then (if (pF f).isSome then none else some "fields")
  else if way = 5 then (if rowsOk r then (if g.inR 1 100000 then none else some "gap") else some "rows")
  else ldBad b e o
def dueS (way : Nat) : Option Str → Str
  | some w => "argument " ++ w
  | none => if way = 3 then "paper form" else ""
def wsD (ws : List (Str × Bool)) : List D := ws.map fun p => .tup [.str p.1, .bl p.2]
theorem sel_ev {s0 s1 s2 s3 s4 s5 s6 s7 s8 s9 : Slot} {ws : List (Str × Bool)} (hl : ws.length ≤ 100) :
    ev Φ LC28_0 [s0, s1, s2, s3, s4, s5, s6, s7, s8, s9, .val (.lst (wsD ws)), .emp, .emp] = .ok (.own (.lst ((ws.filter fun p => !p.2).map fun p => .str p.1)), [s0, s1, s2, s3, s4, s5, s6, s7, s8, s9, .val (.lst (wsD ws)), .emp, .emp]) := by
  have key := ev_lcm (Φ := Φ) (vs := [11, 12]) (t := .tup [.name 11 false, .name 12 false]) (k := .it) (src := [.var 10]) (ifs := IF28_0) (elt := EL28_0)
    (ρ := [s0, s1, s2, s3, s4, s5, s6, s7, s8, s9, .val (.lst (wsD ws)), .emp, .emp]) (ρ1 := [s0, s1, s2, s3, s4, s5, s6, s7, s8, s9, .val (.lst (wsD ws)), .emp, .emp]) (ds := [.lst (wsD ws)]) (items := wsD ws)
    (fun d => match d with | .tup [.str _, .bl b] => !b | _ => false) (fun d => match d with | .tup [x, _] => x | d => d) rfl rfl rfl (fun x hx => by
      obtain ⟨⟨w, b⟩, _, rfl⟩ := List.mem_map.mp hx
      refine ⟨[s0, s1, s2, s3, s4, s5, s6, s7, s8, s9, .val (.lst (wsD ws)), .val (.str w), .val (.bl b)], rfl, ?_, fun _ => rfl, rfl⟩
      cases b <;> rfl) (by unfold wsD; rw [List.length_map]; show _ ≤ 16777216; omega)
  have e : ((wsD ws).filter (fun d => match d with | .tup [.str _, .bl b] => !b | _ => false)).map (fun d => match d with | .tup [x, _] => x | d => d) = (ws.filter fun p => !p.2).map fun p => .str p.1 := by
    clear key hl
    induction ws with
    | nil => rfl
    | cons p ws ih =>
      obtain ⟨w, b⟩ := p
      show List.map _ (List.filter _ (D.tup [.str w, .bl b] :: wsD ws)) = _
      cases b with
      | true => exact ih
      | false =>
        show D.str w :: List.map _ (List.filter _ (wsD ws)) = D.str w :: _
        rw [ih]
  rw [e] at key
  exact key
theorem tru_lst {xs : List D} : opf .tru [.lst xs] = some (.val (.bl (!xs.isEmpty))) := by cases xs <;> rfl
set_option maxHeartbeats 4000000 in
theorem body28 (hs : ∀ d, Ab B N d → Φ 25 [d] = .ok (.val (.bl (pS d).isSome), [])) (hf : ∀ d, Ab B N d → Φ 26 [d] = .ok (.val (.bl (pF d).isSome), [])) (hr : ∀ d, Ab B N d → Φ 27 [d] = .ok (.val (.bl (rowsOk d)), [])) (hw : aW Φ)
    {s f r g b e o : D} (as : Ab B N s) (af : Ab B N f) (ar : Ab B N r) (ag : Ab B N g) (ab : Ab B N b) (ae : Ab B N e) (ao : Ab B N o) {way : Nat} (h7 : way < 7) {wi : Int} (hwi : wi = (way : Nat)) :
    runD Φ D28 [.int wi, .lst [s, f, r, g, b, e, o]] = .ok (.val (.str (dueS way (badW way s f r g b e o))), []) := by
  have h1 := hs s as
  have h2 := hf f af
  have h3 := hr r ar
  have h4 := hw _ _ g 1 100000 ag
  have h5 := hw _ _ b 0 100000 ab
  have h6 := hw _ _ e 0 100000 ae
  have h7' := hw _ _ o 1 100000 ao
  have x1 := sel_ev (Φ := Φ) (s0 := .val (.int wi)) (s1 := .val (.lst [s, f, r, g, b, e, o])) (s2 := .emp) (s3 := .val s) (s4 := .val f) (s5 := .val r) (s6 := .val g) (s7 := .val b) (s8 := .val e) (s9 := .val o) (ws := [("stops", (pS s).isSome), ("fields", (pF f).isSome)]) (by simp)
  have x2 := sel_ev (Φ := Φ) (s0 := .val (.int wi)) (s1 := .val (.lst [s, f, r, g, b, e, o])) (s2 := .emp) (s3 := .val s) (s4 := .val f) (s5 := .val r) (s6 := .val g) (s7 := .val b) (s8 := .val e) (s9 := .val o) (ws := [("fields", (pF f).isSome)]) (by simp)
  have x3 := sel_ev (Φ := Φ) (s0 := .val (.int wi)) (s1 := .val (.lst [s, f, r, g, b, e, o])) (s2 := .emp) (s3 := .val s) (s4 := .val f) (s5 := .val r) (s6 := .val g) (s7 := .val b) (s8 := .val e) (s9 := .val o) (ws := [("rows", rowsOk r), ("gap", g.inR 1 100000)]) (by simp)
  have x4 := sel_ev (Φ := Φ) (s0 := .val (.int wi)) (s1 := .val (.lst [s, f, r, g, b, e, o])) (s2 := .emp) (s3 := .val s) (s4 := .val f) (s5 := .val r) (s6 := .val g) (s7 := .val b) (s8 := .val e) (s9 := .val o) (ws := [("begin", b.inR 0 100000), ("end", e.inR 0 100000), ("own", o.inR 1 100000)]) (by simp)
  have m1 : ∀ {x y : Str}, (x.length + y.length ≤ 16777216) → binf .Add (.str x) (.str y) = some (.val (.str (x ++ y))) := fun h => if_pos h
  have k1 := m1 (x := "argument ") (y := "stops") (by decide)
  have k2 := m1 (x := "argument ") (y := "fields") (by decide)
  have k3 := m1 (x := "argument ") (y := "rows") (by decide)
  have k4 := m1 (x := "argument ") (y := "gap") (by decide)
  have k5 := m1 (x := "argument ") (y := "begin") (by decide)
  have k6 := m1 (x := "argument ") (y := "end") (by decide)
  have k7 := m1 (x := "argument ") (y := "own") (by decide)
  unfold wsD at x1 x2 x3 x4
  simp only [List.map_cons, List.map_nil] at x1 x2 x3 x4
  unfold badW ldBad
  generalize (pS s).isSome = bs at *
  generalize (pF f).isSome = bf at *
  generalize rowsOk r = br at *
  generalize g.inR 1 100000 = bg at *
  generalize b.inR 0 100000 = bb at *
  generalize e.inR 0 100000 = be at *
  generalize o.inR 1 100000 = bo at *
  clear hs hf hr hw
  rw [runD_of rfl]
  match way, h7, hwi with
  | 0, _, hwi => obtain rfl : wi = 0 := hwi; cases bs <;> cases bf <;> simp [D28, n28, assign_lst, tru_lst, h1, h2, x1, k1, k2, dueS]
  | 1, _, hwi => obtain rfl : wi = 1 := hwi; cases bs <;> cases bf <;> simp [D28, n28, assign_lst, tru_lst, h1, h2, x1, k1, k2, dueS]
  | 2, _, hwi => obtain rfl : wi = 2 := hwi; cases bs <;> cases bf <;> simp [D28, n28, assign_lst, tru_lst, h1, h2, x1, k1, k2, dueS]
  | 3, _, hwi => obtain rfl : wi = 3 := hwi; cases bs <;> cases bf <;> simp [D28, n28, assign_lst, tru_lst, h1, h2, x1, k1, k2, dueS]
  | 4, _, hwi => obtain rfl : wi = 4 := hwi; cases bf <;> simp [D28, n28, assign_lst, tru_lst, h2, x2, k2, dueS]
  | 5, _, hwi => obtain rfl : wi = 5 := hwi; cases br <;> cases bg <;> simp [D28, n28, assign_lst, tru_lst, h3, h4, x3, k3, k4, dueS]
  | 6, _, hwi => obtain rfl : wi = 6 := hwi; cases bb <;> cases be <;> cases bo <;> simp [D28, n28, assign_lst, tru_lst, h5, h6, h7', x4, k5, k6, k7, dueS]
end W
namespace W
open PySem DL L2
variable {k : Nat} {Φ : Nat → Fn} {B : Int} {N : Nat}
/-! ## what is told -/
def nmW : Nat → Str
  | 0 => "set_fields" | 1 => "shifts" | 2 => "is_clean" | 3 => "accept_fields" | 4 => "sign_stop" | 5 => "least_stops" | _ => "leaders"
def arW : Nat → D → D → D → D → D → D → D → List D
  | 0, s, f, _, _, _, _, _ => [s, f]
  | 1, s, f, _, _, _, _, _ => [s, f]
  | 2, s, f, _, _, _, _, _ => [s, f]
  | 3, s, f, _, _, _, _, _ => [s, f, .non]
  | 4, _, f, _, _, _, _, _ => [f]
  | 5, _, _, r, g, _, _, _ => [r, g]
  | _, _, _, _, _, b, e, o => [b, e, o]
theorem at4 {a b c d e : D} {l : List D} : atI (a :: b :: c :: d :: e :: l) 4 = some e := atI_nat (j := 4) rfl
theorem at5 {a b c d e f : D} {l : List D} : atI (a :: b :: c :: d :: e :: f :: l) 5 = some f := atI_nat (j := 5) rfl
theorem at6 {a b c d e f g : D} {l : List D} : atI (a :: b :: c :: d :: e :: f :: g :: l) 6 = some g := atI_nat (j := 6) rfl
def Ask (Φ : Nat → Fn) (x : Str) (args : List D) (t : Str) : Prop := ∃ v, Φ 15 [.fn x, .lst args] = .ok (.val v, []) ∧ ((∃ r, v = .lst [r]) ∧ t = "" ∨ v = .str t)
set_option maxHeartbeats 4000000 in
theorem body29 {s f r g b e o : D} {way : Nat} (h7 : way < 7) {wi : Int} (hwi : wi = (way : Nat)) {t : Str} (h : Ask Φ (nmW way) (arW way s f r g b e o) t) :
    runD Φ D29 [.int wi, .lst [s, f, r, g, b, e, o]] = .ok (.val (.str t), []) := by
  obtain ⟨v, hv, ho⟩ := h
  obtain ⟨q, l1, l2⟩ : ∃ q : Bool, opf (.isi "list") [v] = some (.val (.bl q)) ∧ (if q = true then D.str "" else v) = .str t := by
    rcases ho with ⟨⟨r, rfl⟩, rfl⟩ | rfl
    · exact ⟨true, rfl, rfl⟩
    · exact ⟨false, rfl, rfl⟩
  clear ho
  rw [runD_of rfl]
  match way, h7, hwi, hv with
  | 0, _, hwi, hv =>
    obtain rfl : wi = 0 := hwi
    have hv : Φ 15 [.fn "set_fields", .lst [s, f]] = .ok (.val v, []) := hv
    cases q <;> simp at l2 <;> simp [D29, n29, assign_lst, at4, at5, at6, hv, l1, l2]
  | 1, _, hwi, hv =>
    obtain rfl : wi = 1 := hwi
    have hv : Φ 15 [.fn "shifts", .lst [s, f]] = .ok (.val v, []) := hv
    cases q <;> simp at l2 <;> simp [D29, n29, assign_lst, at4, at5, at6, hv, l1, l2]
  | 2, _, hwi, hv =>
    obtain rfl : wi = 2 := hwi
    have hv : Φ 15 [.fn "is_clean", .lst [s, f]] = .ok (.val v, []) := hv
    cases q <;> simp at l2 <;> simp [D29, n29, assign_lst, at4, at5, at6, hv, l1, l2]
  | 3, _, hwi, hv =>
    obtain rfl : wi = 3 := hwi
    have hv : Φ 15 [.fn "accept_fields", .lst [s, f, .non]] = .ok (.val v, []) := hv
    cases q <;> simp at l2 <;> simp [D29, n29, assign_lst, at4, at5, at6, hv, l1, l2]
  | 4, _, hwi, hv =>
    obtain rfl : wi = 4 := hwi
    have hv : Φ 15 [.fn "sign_stop", .lst [f]] = .ok (.val v, []) := hv
    cases q <;> simp at l2 <;> simp [D29, n29, assign_lst, at4, at5, at6, hv, l1, l2]
  | 5, _, hwi, hv =>
    obtain rfl : wi = 5 := hwi
    have hv : Φ 15 [.fn "least_stops", .lst [r, g]] = .ok (.val v, []) := hv
    cases q <;> simp at l2 <;> simp [D29, n29, assign_lst, at4, at5, at6, hv, l1, l2]
  | 6, _, hwi, hv =>
    obtain rfl : wi = 6 := hwi
    have hv : Φ 15 [.fn "leaders", .lst [b, e, o]] = .ok (.val v, []) := hv
    cases q <;> simp at l2 <;> simp [D29, n29, assign_lst, at4, at5, at6, hv, l1, l2]
end W
namespace W
open PySem DL L2
variable {k : Nat} {Φ : Nat → Fn} {B : Int} {N : Nat}
/-! ## facts of the table -/
theorem G_aI : aI (phi tab (k+1)) := fun B N d h => by rw [P0]; exact abody0 h
theorem G_aW : aW (phi tab (k+1)) := fun B N d lo hi h => by rw [P17]; exact abody17 h
theorem G_cS {d : D} (h : Ab B N d) : cS (phi tab (k+2)) d := by show phi tab (k+1+1) _ _ = _; rw [P1]; exact abody1 G_aI h
theorem G_cF {d : D} (h : Ab B N d) : cF (phi tab (k+2)) d := by show phi tab (k+1+1) _ _ = _; rw [P2]; exact abody2 G_aI h
theorem G_isI : isI (phi tab (k+1)) := G_aI.isI
theorem G_ckS {S : List Stp} {F : List Fld} (hS : Sps S) (hF : Fds F) : ckS (phi tab (k+2)) S F := by
  constructor
  · show phi tab (k+1+1) _ _ = _; rw [P1]; exact body1 G_isI hS
  · show phi tab (k+1+1) _ _ = _; rw [P2]; exact body2 G_isI hF
theorem G_wt : wtI (phi tab (k+1)) 3 := fun s f => by rw [P3]; exact body3
theorem G_lwt : wtI (phi tab (k+1)) 21 := fun s f => by rw [P21]; exact body21
theorem G_set {S : List Stp} {F : List Fld} (hS : Sps S) (hF : Fds F) : stI (phi tab (k+3)) S F := by show phi tab (k+2+1) _ _ = _; rw [P4]; exact body4 hS hF (G_ckS hS hF) (G_wt (k := k+1))
theorem G_shi {S : List Stp} {F : List Fld} (hS : Sps S) (hF : Fds F) : phi tab (k+4) 5 [.tup (sd S), .tup (fd F)] = .ok (.val (.tup ((shl S (sf S F 0 0) F).map .int)), []) := by show phi tab (k+3+1) _ _ = _; rw [P5]; exact body5 hF (G_wt (k := k+2)) (G_set hS hF)
theorem G_cln {S : List Stp} {F : List Fld} (hS : Sps S) (hF : Fds F) : phi tab (k+5) 6 [.tup (sd S), .tup (fd F)] = .ok (.val (.bl (cln S F)), []) := by show phi tab (k+4+1) _ _ = _; rw [P6]; exact body6 hS hF (G_set (k := k+1) hS hF) (G_shi hS hF)
theorem G_setx {s f : D} (as : Ab B N s) (af : Ab B N f) {p : Str × Str} (h : dSF s f = some p) : phi tab (k+3) 4 [s, f] = .exc p.1 (.str p.2) [] := by show phi tab (k+2+1) _ _ = _; rw [P4]; exact set_x (G_cS as) (G_cF af) h
theorem wd_stops : wordD whs "ArgumentError" (.str "stops") = some (.str ("argument " ++ "stops")) := rfl
theorem G_bt : ∀ dep k, Bt (phi tab (k + 3 + dep)) dep
  | 0, k => fun B N d st h hB hN hN2 hs => by
    show ∃ r st', phi tab (k+2+1) _ _ = _ ∧ _ ∧ _
    rw [P18]
    exact body18 (draws_phi (k := k)) (fun m hm => by cases hm) h hB hN hN2 hs
  | dep + 1, k => fun B N d st h hB hN hN2 hs => by
    show ∃ r st', phi tab (k+3+dep+1) _ _ = _ ∧ _ ∧ _
    rw [P18]
    have e : k + 3 + dep = (k + 1 + dep) + 2 := by omega
    exact body18 (by rw [e]; exact draws_phi) (fun m hm => by cases hm; exact G_bt dep k) h hB hN hN2 hs
/-- asked, if all is right -/
theorem ask_ok {x : Str} {args : List D} {r : D} (h : runD Φ D15 [.fn x, .lst args] = .ok (.val (.lst [r]), [])) (hp : Φ = phi tab k) : Ask (phi tab (k+1)) x args "" := by
  subst hp
  exact ⟨_, by rw [P15]; exact h, .inl ⟨⟨r, rfl⟩, rfl⟩⟩
theorem ask_ex {x : Str} {args : List D} {t : Str} (h : runD Φ D15 [.fn x, .lst args] = .ok (.val (.str t), [])) (hp : Φ = phi tab k) : Ask (phi tab (k+1)) x args t := by
  subst hp
  exact ⟨_, by rw [P15]; exact h, .inr rfl⟩
theorem badW_lt {way : Nat} (h : way < 4) {s f r g b e o : D} : badW way s f r g b e o = (dSF s f).map Prod.snd := by
  unfold badW dSF
  rw [if_pos h]
  cases (pS s).isSome <;> cases (pF f).isSome <;> rfl
theorem dSF_or {s f : D} {p : Str × Str} (h : dSF s f = some p) : p = (("ArgumentError" : Str), ("stops" : Str)) ∨ p = (("ArgumentError" : Str), ("fields" : Str)) := by
  unfold dSF at h
  cases h1 : (pS s).isSome <;> rw [h1] at h
  · cases h; exact .inl rfl
  · cases h2 : (pF f).isSome <;> rw [h2] at h
    · cases h; exact .inr rfl
    · cases h
theorem dSF_wd {s f : D} {p : Str × Str} (h : dSF s f = some p) : wordD whs p.1 (.str p.2) = some (.str ("argument " ++ p.2)) := by
  rcases dSF_or h with rfl | rfl <;> rfl
theorem asks {s f r g b e o : D} (as : Ab B N s) (af : Ab B N f) (ar : Ab B N r) (ag : Ab B N g) (ab : Ab B N b) (ae : Ab B N e) (ao : Ab B N o) (hN : N ≤ 16777216) {way : Nat} (h7 : way < 7) :
    Ask (phi tab (k+6)) (nmW way) (arW way s f r g b e o) (dueS way (badW way s f r g b e o)) := by
  match way, h7 with
  | 0, _ =>
    rw [badW_lt (by omega)]
    cases hd : dSF s f with
    | none =>
      obtain ⟨S, F, h1, h2⟩ := dSF_none hd
      obtain ⟨rfl, hS⟩ := pS_eq h1
      obtain ⟨rfl, hF⟩ := pF_eq h2
      exact ask_ok (k := k+5) (askd2 (f := 4) rfl (G_set (k := k+2) hS hF)) rfl
    | some p => exact ask_ex (k := k+5) (askx2 (f := 4) rfl (G_setx (k := k+2) as af hd) (dSF_wd hd)) rfl
  | 1, _ =>
    rw [badW_lt (by omega)]
    cases hd : dSF s f with
    | none =>
      obtain ⟨S, F, h1, h2⟩ := dSF_none hd
      obtain ⟨rfl, hS⟩ := pS_eq h1
      obtain ⟨rfl, hF⟩ := pF_eq h2
      exact ask_ok (k := k+5) (askd2 (f := 5) rfl (G_shi (k := k+1) hS hF)) rfl
    | some p =>
      have q : phi tab (k+4+1) 5 [s, f] = .exc p.1 (.str p.2) [] := by rw [P5]; exact shi_x (G_setx (k := k+1) as af hd)
      exact ask_ex (k := k+5) (askx2 (f := 5) rfl q (dSF_wd hd)) rfl
  | 2, _ =>
    rw [badW_lt (by omega)]
    cases hd : dSF s f with
    | none =>
      obtain ⟨S, F, h1, h2⟩ := dSF_none hd
      obtain ⟨rfl, hS⟩ := pS_eq h1
      obtain ⟨rfl, hF⟩ := pF_eq h2
      exact ask_ok (k := k+5) (askd2 (f := 6) rfl (G_cln (k := k) hS hF)) rfl
    | some p =>
      have q : phi tab (k+4+1) 6 [s, f] = .exc p.1 (.str p.2) [] := by rw [P6]; exact cln_x (G_setx (k := k+1) as af hd)
      exact ask_ex (k := k+5) (askx2 (f := 6) rfl q (dSF_wd hd)) rfl
  | 3, _ =>
    rw [badW_lt (by omega)]
    cases hd : dSF s f with
    | none =>
      have q : phi tab (k+4+1) 7 [s, f, .non] = .exc "PaperError" (.str "form") [] := by rw [P7]; exact acc_non (G_cS (k := k+2) as) (G_cF (k := k+2) af) hd
      exact ask_ex (k := k+5) (askx3 (f := 7) rfl q rfl) rfl
    | some p =>
      have q : phi tab (k+4+1) 7 [s, f, .non] = .exc p.1 (.str p.2) [] := by rw [P7]; exact acc_x (G_cS (k := k+2) as) (G_cF (k := k+2) af) hd
      exact ask_ex (k := k+5) (askx3 (f := 7) rfl q (dSF_wd hd)) rfl
  | 4, _ =>
    show Ask _ _ [f] (dueS 4 (if (pF f).isSome then none else some "fields"))
    cases hd : pF f with
    | some F =>
      obtain ⟨rfl, hF⟩ := pF_eq hd
      have q : phi tab (k+4+1) 9 [.tup (fd F)] = .ok (.val (sgD F), []) := by
        rw [P9]; refine body9 hF ?_
        show phi tab (k+3+1) _ _ = _; rw [P2]; exact body2 G_isI hF
      exact ask_ok (k := k+5) (askd1 (f := 9) rfl q) rfl
    | none =>
      have q : phi tab (k+4+1) 9 [f] = .exc "ArgumentError" (.str "fields") [] := by rw [P9]; exact sgn_x (G_cF (k := k+2) af) hd
      exact ask_ex (k := k+5) (askx1 (f := 9) rfl q rfl) rfl
  | 5, _ =>
    show Ask _ _ [r, g] (dueS 5 (if rowsOk r then (if g.inR 1 100000 then none else some "gap") else some "rows"))
    cases hr : rowsOk r with
    | false =>
      have q : phi tab (k+4+1) 8 [r, g] = .exc "ArgumentError" (.str "rows") [] := by rw [P8]; exact ls_bad (G_aI (k := k+3)) ar hN hr
      exact ask_ex (k := k+5) (askx2 (f := 8) rfl q rfl) rfl
    | true =>
      obtain ⟨V, m, rfl, hV⟩ := rowsOk_eq hr
      cases hg : g.inR 1 100000 with
      | false =>
        have q : phi tab (k+4+1) 8 [.tup (wdD V), g] = .exc "ArgumentError" (.str "gap") [] := by rw [P8]; exact ls_gap (G_aI (k := k+3)) hV ag hg
        exact ask_ex (k := k+5) (askx2 (f := 8) rfl q rfl) rfl
      | true =>
        obtain ⟨i, rfl, g0, g1⟩ := inR_eq hg
        have q : phi tab (k+4+1) 8 [.tup (wdD V), .int i] = .ok (.val (.tup (lsD V i m)), []) := by rw [P8]; exact body8 (G_isI (k := k+3)) hV g0 g1
        exact ask_ok (k := k+5) (askd2 (f := 8) rfl q) rfl
  | 6, _ =>
    show Ask _ _ [b, e, o] (dueS 6 (ldBad b e o))
    cases hw : ldBad b e o with
    | some w =>
      have q : phi tab (k+4+1) 10 [b, e, o] = .exc "ArgumentError" (.str w) [] := by rw [P10]; exact ld_bad (G_aI (k := k+3)) ab ae ao hw
      have hw' : wordD whs "ArgumentError" (.str w) = some (.str ("argument " ++ w)) := by
        unfold ldBad at hw
        split at hw
        · cases hw; rfl
        · split at hw
          · cases hw; rfl
          · split at hw
            · cases hw; rfl
            · cases hw
      exact ask_ex (k := k+5) (askx3 (f := 10) rfl q hw') rfl
    | none =>
      unfold ldBad at hw
      cases h1 : b.inR 0 100000 with
      | false => rw [h1, if_pos rfl] at hw; cases hw
      | true =>
        cases h2 : e.inR 0 100000 with
        | false => rw [h1, if_neg (by decide), h2, if_pos rfl] at hw; cases hw
        | true =>
          cases h3 : o.inR 1 100000 with
          | false => rw [h1, if_neg (by decide), h2, if_neg (by decide), h3, if_pos rfl] at hw; cases hw
          | true =>
            obtain ⟨b, rfl, b0, b1⟩ := inR_eq h1
            obtain ⟨e, rfl, e0, e1⟩ := inR_eq h2
            obtain ⟨o, rfl, o0, o1⟩ := inR_eq h3
            have q : phi tab (k+4+1) 10 [.int b, .int e, .int o] = .ok (.val (.tup (ldD b e o)), []) := by rw [P10]; exact body10 (G_isI (k := k+3)) b0 b1 e0 e1 o0 o1
            exact ask_ok (k := k+5) (askd3 (f := 10) rfl q) rfl
theorem acD2_wd {S : List Stp} {F : List Fld} {d : D} {w : Str} (h : acD2 S F d = some w) : wordD whs "PaperError" (.str w) = some (dueD (some w)) := by
  unfold acD2 at h
  split at h
  · rcases acL_mem (S := S) ((d.its.map toR).zip F) (-1) 0 with e | e | e <;> rw [e] at h
    · cases h
    · cases h; rfl
    · cases h; rfl
  · cases h; rfl
theorem pz : Pz (phi tab (k+6)) where
  dw := draws_phi (k := k+4)
  stp := fun st m top hs m0 m1 t0 t1 => by
    obtain ⟨S, st', h1, h2, h3⟩ := body19 (Φ := phi tab (k+5)) (draws_phi (k := k+3)) hs m0 m1 t0 t1
    exact ⟨S, st', by show phi tab (k+5+1) _ _ = _; rw [P19]; exact h1, h2, h3⟩
  fld := fun st m top hs m0 m1 t0 t1 => by
    obtain ⟨S, st', h1, h2, h3⟩ := body20 (Φ := phi tab (k+5)) (draws_phi (k := k+3)) hs m0 m1 t0 t1
    exact ⟨S, st', by show phi tab (k+5+1) _ _ = _; rw [P20]; exact h1, h2, h3⟩
  set := fun S F hS hF => by show phi tab (k+5+1) _ _ = _; rw [P22]; exact body22 hS hF (G_lwt (k := k+4))
  bt := G_bt 2 (k+1)
  ask := fun S F d hS hF hd => by
    show phi tab (k+5+1) _ _ = _
    rw [P15]
    have q := abody7 (Φ := phi tab (k+4)) (G_aI (k := k+3)) (G_wt (k := k+3)) hS hF (G_ckS (k := k+2) hS hF) hd
    rw [← P7] at q
    cases hw : acD2 S F d with
    | none => rw [hw] at q; exact askd3 (f := 7) rfl q
    | some w => rw [hw] at q; exact askx3 (f := 7) rfl q (acD2_wd hw)
  due := fun S F d hS hF hd => by show phi tab (k+5+1) _ _ = _; rw [P23]; exact body23 (G_aW (k := k+4)) (G_lwt (k := k+4)) hS hF hd (by omega)
  sm := fun d h => f14 (k := k+5) h
end W
namespace W
open PySem DL L2
variable {k : Nat} {Φ : Nat → Fn} {B : Int} {N : Nat}
theorem evSs_app {b : List S} : ∀ {a : List S} {ρ : DL.Sts}, evSs Φ (a ++ b) ρ = thenR (evSs Φ a ρ) fun ρ1 => evSs Φ b ρ1
  | [], ρ => rfl
  | s :: a, ρ => by
    show thenR (evS Φ s ρ) (fun ρ1 => evSs Φ (a ++ b) ρ1) = thenR (thenR (evS Φ s ρ) fun ρ1 => evSs Φ a ρ1) fun ρ1 => evSs Φ b ρ1
    have e : (fun ρ1 => evSs Φ (a ++ b) ρ1) = fun ρ1 => thenR (evSs Φ a ρ1) fun ρ2 => evSs Φ b ρ2 := funext fun ρ1 => evSs_app
    rw [e]
    cases evS Φ s ρ with
    | ok o => cases o <;> rfl
    | exc _ _ _ => rfl
    | bad => rfl
/-! ## odd things -/
def lf (i : Int) : D := .tup [.int i, .str "left"]
def m11 (n : Nat) : D := .tup (List.replicate n (.tup [.int 1, .int 1]))
def m1 (n : Nat) : D := .tup (List.replicate n (.int 1))
def lfs (n : Nat) : D := .tup ((List.range n).map fun (i : Nat) => lf i)
def odA : List D := [.int 0, .int 1, .int (-1), .int 100000, .bl true, .non, .str "1", .tup [], .tup [lf 1], .tup [.tup [.int 1, .str "Left"]], .tup [lf 1, lf 1], .tup [.tup [.int 0, .int 1]], m11 20]
def odB : List D := [m11 21, .tup [.tup [.int 5000]], .tup [.tup [.int 5001]], .tup [.tup [.int 1], .tup [.int 1, .int 2]], .tup [.tup []], .tup [m1 20]]
def odC : List D := [.tup [m1 21], lfs 20, lfs 21, .tup [.tup [.int 100000, .str "sign"]], .tup [.tup [.int 100001, .str "sign"]]]
theorem ab_two {a b : D} (h : Ab B N a) (h' : Ab B N b) (hN : 2 ≤ N) : Ab B N (.tup [a, b]) := .tup _ (by simpa using hN) fun x hx => by
  simp at hx
  rcases hx with rfl | rfl
  · exact h
  · exact h'
theorem ab_rep {n : Nat} {x : D} (h : Ab B N x) (hn : n ≤ N) : Ab B N (.tup (List.replicate n x)) := .tup _ (by simpa using hn) fun y hy => by rw [List.eq_of_mem_replicate hy]; exact h
theorem od_ab : ∀ x ∈ odA ++ odB ++ odC, Ab 100001 21 x := by
  have i0 : ∀ i : Int, -1 ≤ i → i ≤ 100001 → Ab 100001 21 (.int i) := fun i h1 h2 => .int i (by omega) (by omega)
  have s0 : ∀ s : Str, PyData.strOk s = true → s.length ≤ 1000 → Ab 100001 21 (.str s) := fun s h1 h2 => .str s h1 h2
  have sl := s0 "left" (by decide +kernel) (by decide +kernel)
  have sL := s0 "Left" (by decide +kernel) (by decide +kernel)
  have sg := s0 "sign" (by decide +kernel) (by decide +kernel)
  have s1 := s0 "1" (by decide +kernel) (by decide +kernel)
  have hl : ∀ i : Int, -1 ≤ i → i ≤ 100001 → Ab 100001 21 (lf i) := fun i h1 h2 => ab_two (i0 i h1 h2) sl (by omega)
  have ls : ∀ n : Nat, n ≤ 21 → Ab 100001 21 (lfs n) := fun n hn => .tup _ (by simpa using hn) fun x hx => by
    obtain ⟨i, hi, rfl⟩ := List.mem_map.mp hx
    have := List.mem_range.mp hi
    exact hl _ (by omega) (by omega)
  intro x hx
  simp only [odA, odB, odC, List.mem_append, List.mem_cons, List.not_mem_nil, or_false] at hx
  rcases hx with ((rfl | rfl | rfl | rfl | rfl | rfl | rfl | rfl | rfl | rfl | rfl | rfl | rfl) | (rfl | rfl | rfl | rfl | rfl | rfl)) | (rfl | rfl | rfl | rfl | rfl)
  · exact i0 _ (by decide) (by decide)
  · exact i0 _ (by decide) (by decide)
  · exact i0 _ (by decide) (by decide)
  · exact i0 _ (by decide) (by decide)
  · exact .bl _
  · exact .non
  · exact s1
  · exact .tup _ (by simp) fun x hx => by cases hx
  · exact ab_one (hl _ (by decide) (by decide)) (by omega)
  · exact ab_one (ab_two (i0 _ (by decide) (by decide)) sL (by omega)) (by omega)
  · exact ab_two (hl _ (by decide) (by decide)) (hl _ (by decide) (by decide)) (by omega)
  · exact ab_one (ab_two (i0 _ (by decide) (by decide)) (i0 _ (by decide) (by decide)) (by omega)) (by omega)
  · exact ab_rep (ab_two (i0 _ (by decide) (by decide)) (i0 _ (by decide) (by decide)) (by omega)) (by omega)
  · exact ab_rep (ab_two (i0 _ (by decide) (by decide)) (i0 _ (by decide) (by decide)) (by omega)) (by omega)
  · exact ab_one (ab_one (i0 _ (by decide) (by decide)) (by omega)) (by omega)
  · exact ab_one (ab_one (i0 _ (by decide) (by decide)) (by omega)) (by omega)
  · exact ab_two (ab_one (i0 _ (by decide) (by decide)) (by omega)) (ab_two (i0 _ (by decide) (by decide)) (i0 _ (by decide) (by decide)) (by omega)) (by omega)
  · exact ab_one (.tup _ (by simp) fun x hx => by cases hx) (by omega)
  · exact ab_one (ab_rep (i0 _ (by decide) (by decide)) (by omega)) (by omega)
  · exact ab_one (ab_rep (i0 _ (by decide) (by decide)) (by omega)) (by omega)
  · exact ls 20 (by omega)
  · exact ls 21 (by omega)
  · exact ab_one (ab_two (i0 _ (by decide) (by decide)) sg (by omega)) (by omega)
  · exact ab_one (ab_two (i0 _ (by decide) (by decide)) sg (by omega)) (by omega)
def BO : List S := (BD30_2.drop 1).take 3
def BQ : List S := BD30_2.drop 4
theorem bd_parts : BD30_2 = BD30_2.take 1 ++ (BO ++ BQ) := rfl
theorem lcN_ev {n : Nat} (hn : n ≤ 21) {e : E} (he : e = .mk .tup [(.var 4), (.lit (.str "left"))]) {s0 s1 s2 s3 s5 s6 s7 : Slot} {x : D} : ev Φ (.lc [4] (.name 4 false) .rng [(.lit (.int (n : Nat)))] [] e) [s0, s1, s2, s3, .val x, s5, s6, s7] = .ok (.own (.lst ((List.range n).map fun (i : Nat) => lf i)), [s0, s1, s2, s3, .val x, s5, s6, s7]) :=
  lc_ty0S (Φ := Φ) (vs := [4]) (t := .name 4 false) (k := .rng) (src := [.lit (.int (n : Nat))]) (elt := e) (ρ := [s0, s1, s2, s3, .val x, s5, s6, s7]) [.int (n : Nat)] (List.range n) (fun (i : Nat) => D.int i) (fun (i : Nat) => lf i) rfl (rng1 (by omega) rfl) rfl rfl
    (fun i _ => ⟨[s0, s1, s2, s3, .val (.int (i : Nat)), s5, s6, s7], rfl, by subst he; simp [lf], rfl⟩) (by rw [List.length_range]; show _ ≤ 16777216; omega)
theorem odd_ev {s0 s1 s2 s3 s5 s6 s7 : Slot} {x : D} : evSs Φ BO [s0, s1, s2, s3, .val x, s5, s6, s7] = .ok (.nx [s0, s1, s2, s3, .val x, s5, s6, .val (.lst (odA ++ odB ++ odC))]) := by
  have l0 : ∀ {s7 : Slot}, ev Φ LC30_0 [s0, s1, s2, s3, .val x, s5, s6, s7] = .ok (.own (.lst ((List.range 20).map fun (i : Nat) => lf i)), [s0, s1, s2, s3, .val x, s5, s6, s7]) := fun {s7} => lcN_ev (n := 20) (by omega) rfl
  have l1 : ∀ {s7 : Slot}, ev Φ LC30_1 [s0, s1, s2, s3, .val x, s5, s6, s7] = .ok (.own (.lst ((List.range 21).map fun (i : Nat) => lf i)), [s0, s1, s2, s3, .val x, s5, s6, s7]) := fun {s7} => lcN_ev (n := 21) (by omega) rfl
  have p1 : binf .Mult (.tup [.tup [.int 1, .int 1]]) (.int 20) = some (.val (m11 20)) := rep_tup (n := 20) (by omega)
  have p2 : binf .Mult (.tup [.tup [.int 1, .int 1]]) (.int 21) = some (.val (m11 21)) := rep_tup (n := 21) (by omega)
  have p3 : binf .Mult (.tup [.int 1]) (.int 20) = some (.val (m1 20)) := rep_tup (n := 20) (by omega)
  have p4 : binf .Mult (.tup [.int 1]) (.int 21) = some (.val (m1 21)) := rep_tup (n := 21) (by omega)
  have a1 := bin_apL (xs := odA) (ys := odB) (by decide)
  have a2 := bin_apL (xs := odA ++ odB) (ys := odC) (by decide)
  have mA : mkf .lst odA = some (.own (.lst odA)) := mkf_lst (by decide)
  have mB : mkf .lst odB = some (.own (.lst odB)) := mkf_lst (by decide)
  have mC : mkf .lst odC = some (.own (.lst odC)) := mkf_lst (by decide)
  have e20 : lfs 20 = .tup ((List.range 20).map fun (i : Nat) => lf i) := rfl
  have e21 : lfs 21 = .tup ((List.range 21).map fun (i : Nat) => lf i) := rfl
  have z0 : mkf .tup [] = some (.val (.tup [])) := mkf_tup (by decide)
  generalize hA : D.lst odA = A at *
  generalize hB : D.lst odB = B at *
  generalize hC : D.lst odC = C at *
  generalize hD : D.lst (odA ++ odB) = D' at *
  generalize hE : D.lst (odA ++ odB ++ odC) = E' at *
  clear hA hB hC hD hE
  unfold odA lf at mA
  unfold odB at mB
  unfold odC at mC
  rw [e20, e21] at mC
  clear e20 e21
  generalize (List.range 20).map (fun (i : Nat) => lf i) = L20 at *
  generalize (List.range 21).map (fun (i : Nat) => lf i) = L21 at *
  generalize m11 20 = x1 at *
  generalize m11 21 = x2 at *
  generalize m1 20 = x3 at *
  generalize m1 21 = x4 at *
  simp [BO, BD30_2, l0, l1, p1, p2, p3, p4, a1, a2, mA, mB, mC, z0]
end W
set_option maxHeartbeats 2000000
/-! EX6: the classes of errors by what the text says. -/
namespace DL
open PySem PySem.Spec PyProof.Rows L2
/-- the `__init__` of a class statement -/
def initSt : Stmt → Stmt
  | .ClassDef _ _ _ body _ _ _ _ _ _ _ => body.headD (.Pass ⟨0, 0, 0, 0⟩)
  | s => s
theorem free_of {ns : List (Str × NameKind)} (h : (ns.all fun y => !(y.2 == .free) || y.1 == ("__class__" : Str)) = true) : ∀ y, ns.lookup y = some .free → y = ("__class__" : Str) := fun y hy => by
  have hm := PySem.mem_of_lookup hy
  have := List.all_eq_true.mp h _ hm
  simpa using this
section
open PySem.W
abbrev vTail : List Value := [.type "ValueError", .type "Exception", .type "BaseException", .type "object"]
theorem ClsAt.by {P : Program} {K : Frag} {c fl r : Str} {st : Stmt} {qual : Str} {txt : TX} {C fI S cc cda : Addr}
    {nm q nm2 q2 : Str} {N N2 : Addr} {bs bs2 : List Value} {sn sn2 : List Str} {sub sub2 : List Value} {ab ab2 hd2 : Bool} {col col2 : Option Bool} {dd dd2 : Option Addr} {k0 k1 k2 k3 k5 j0 j1 j2 j3 j5 : Option Value} {nid : String}
    {oc ct kV doc pm cl ccl : Value} {od an cld cdd : Option Addr} {osl csl ccs : Array (Option Value)} {vs : Array Value} {file : Str} {tf : Tok} {ar : PySem.Arg} {ex ey : Expr} {pe p0 p1 p2 p3 p4 p5 p6 p7 p8 : Pos}
    (a : nsIn K mainGlobals c = some (some (.ref C)))
    (lC : K.lookup C = some (excClassObj nm q C N bs (.ref S :: vTail) true sn sub ab col dd k0 k1 k2 k3 k5 "ValueError.__new__"))
    (lS : K.lookup S = some (excClassObj nm2 q2 S N2 bs2 vTail hd2 sn2 sub2 ab2 col2 dd2 j0 j1 j2 j3 j5 nid))
    (sa : findIn K (.ref C) "__setattr__" = some (some (.builtin "object.__setattr__"))) (eC : subIn K (.ref C) (.type "BaseException") = some true) (tC : typeIn K (.ref C) = some (.type "type")) (kC : keepIn K (.ref C) = true)
    (iC : findIn K (.ref C) "__init__" = some (some (.ref fI))) (tI : typeIn K (.ref fI) = some (.type "function"))
    (lI : K.lookup fI = some ⟨oc, od, .func (ksFn "__init__" qual (defArgs st) (defBody st) (defScope st) .none kV doc pm an (.ref cda) ct cc), osl⟩) (cI : codeIn K (.ref cda) qual = true)
    (lcc : K.lookup cc = some ⟨cl, cld, .cell (some (.ref C)), csl⟩) (lcd : K.lookup cda = some ⟨ccl, cdd, .fields vs, ccs⟩) (hvs : vs[2]? = some (.str file tf)) (hfile : ((P.main.file : Str) == file) = true)
    (iS : findIn K (.ref S) "__init__" = some (some (.builtin "ValueError.__init__"))) (opq : nsIn K cStatics "thirdparty.any" = some none) (fno : findIn K (.ref C) fl = some none) (top : (P.main.scope.names.lookup ("super" : Str)).isSome = false)
    (su : nsIn K mainGlobals "super" = some none) (ss : nsIn K mainGlobals "str" = some none) (sc : InitScope r (defScope st)) (hp : ((defArgs st).posonlyargs ++ (defArgs st).args).head? = some ar) (har : ar.arg = ("self" : Str))
    (bn : ∀ (us : List Value), us.length = 2 → bindArgs (ksFn "__init__" qual (defArgs st) (defBody st) (defScope st) .none kV doc pm an (.ref cda) ct cc) ⟨us, []⟩ = pure ([("self" : Str), r].zip us))
    (hbu : bootBuiltins "super" = some (.type "super")) (hbs : bootBuiltins "str" = some (.type "str"))
    (hbd : defBody st = [.Expr (.Call (.Attribute (.Call (.Name "super" p0) [] [] p1) "__init__" p2) [.BinOp ex .Add ey pe] [] p3) p4, .Assign [.Attribute (.Name "self" p5) fl p6] (.Name r p7) p8])
    (ht : txt.of r (.BinOp ex .Add ey pe)) (hl : txt.len 10000 ≤ sizeLine)
    {pl : PySem.Env → Sem Bool} (hev : ∀ env : PySem.Env, eval (.Call (.Attribute (.Call (.Name "super" p0) [] [] p1) "__init__" p2) [.BinOp ex .Add ey pe] [] p3) env = (do
      let ov ← attributeBase (.Call (.Name "super" p0) [] [] p1) "__init__" env (eval (.Call (.Name "super" p0) [] [] p1) env)
      standAt p2.atName
      let (f, first) ← holding [ov] (getMethod ov "__init__" (pl env))
      callWith p3 f first (backTo p3 (starEach [.BinOp ex .Add ey pe] env)) [])) : ClsAt P K c fl := by
  have oex : OexC K C := ⟨⟨nm, q, N, bs, _, sn, sub, ab, col, dd, k0, k1, k2, k3, k5, lC, by show PySem.HandSPX.refsVE vTail = true; decide +kernel⟩, sa, eC, tC, kC⟩
  have sup : ks_superIn K C C "__init__" = some (some (.builtin "ValueError.__init__")) := by
    unfold ks_superIn clsIn
    rw [lC]
    show alongIn K "__init__" (((Value.ref C :: .ref S :: vTail).dropWhile (· != .ref C)).drop 1) = _
    rw [PySem.ESX.drop_own]
    have e : findIn K (.ref S) "__init__" = alongIn K "__init__" (.ref S :: vTail) := by
      unfold findIn
      dsimp only
      rw [lS]
    rw [← e]
    exact iS
  refine ⟨⟨C, fI, ksFn "__init__" qual (defArgs st) (defBody st) (defScope st) .none kV doc pm an (.ref cda) ct cc, r, txt, a, oex, iC, tI, fun w mg base h1 h2 => ?_, fun s us _ hl => ?_, hl⟩, su, ss⟩
  · rw [hbd] at lI ⊢
    exact fn_init rfl sc ⟨oex, ⟨cl, cld, csl, lcc⟩, ⟨ccl, cdd, vs, ccs, file, tf, lcd, hvs, hfile⟩, ⟨oc, od, osl, lI⟩, sup, opq, fno, top⟩ cI hp har h1 h2 hbu hbs ht hev
  · rw [List.append_nil]
    exact .of_eq (bn us (by simpa using hl))

theorem kit_self {K : Frag} {C : Addr} : kitOne K (.ref C) (.ref C) = some true := if_pos (by simp)
theorem kit_ref {K : Frag} {C D : Addr} {b : Bool} (hne : (C == D) = false) (hc : isClsIn K D = true) (ht : typeIn K (.ref D) = some (.type "type")) (hs : subIn K (.ref C) (.ref D) = some b) : kitOne K (.ref C) (.ref D) = some b := by
  have e : (Value.ref C == Value.ref D) = false := by
    have : C ≠ D := by simpa using hne
    simpa using this
  have hc' : (clsIn K D).isSome = true := hc
  have e2 : ((clsIn K D).isSome && typeIn K (.ref D) == some (.type "type")) = true := by rw [hc', ht] <;> rfl
  unfold kitOne
  rw [if_neg (by rw [e]; exact Bool.false_ne_true)]
  show (if ((clsIn K D).isSome && typeIn K (.ref D) == some (.type "type")) = true then subIn K (.ref C) (.ref D) else none) = some b
  rw [if_pos e2]
  exact hs
theorem kit_ve {K : Frag} {C : Addr} (hs : subIn K (.ref C) (.type "ValueError") = some true) : kitOne K (.ref C) (.type "ValueError") = some true := by
  unfold kitOne
  rw [if_neg (by simp)]
  show (if kitMeta "ValueError" = true then subIn K (.ref C) (.type "ValueError") else none) = some true
  rw [if_pos (by decide +kernel)]
  exact hs
/-- the classes of the heads, one by one -/
inductive Kits (K : Frag) (C : Addr) (c : Str) : List Str → Prop
  | nil : Kits K C c []
  | self {n : Str} {ns : List Str} (h : decide (n = c) = true) (a : nsIn K mainGlobals n = some (some (.ref C))) : Kits K C c ns → Kits K C c (n :: ns)
  | ref {n : Str} {ns : List Str} {D : Addr} (h : decide (n = c) = false) (a : nsIn K mainGlobals n = some (some (.ref D))) (hne : (C == D) = false) (hc : isClsIn K D = true) (ht : typeIn K (.ref D) = some (.type "type")) (hs : subIn K (.ref C) (.ref D) = some false) : Kits K C c ns → Kits K C c (n :: ns)
theorem Kits.at_ {K : Frag} {C : Addr} {c : Str} : ∀ {ns : List Str}, Kits K C c ns → ∀ n ∈ ns, ∃ D, nsIn K mainGlobals n = some (some (.ref D)) ∧ kitOne K (.ref C) (.ref D) = some (decide (n = c))
  | _, .nil, n, h => by cases h
  | _, .self h a r, n, hm => by
    rcases List.mem_cons.mp hm with rfl | hm
    · exact ⟨C, a, by rw [h]; exact kit_self⟩
    · exact r.at_ n hm
  | _, .ref h a hne hc ht hs r, n, hm => by
    rcases List.mem_cons.mp hm with rfl | hm
    · exact ⟨_, a, by rw [h]; exact kit_ref hne hc ht hs⟩
    · exact r.at_ n hm
theorem ClsE.by {K : Frag} {c fl : Str} {ns : List Str} {C CS : Addr} (a : nsIn K mainGlobals c = some (some (.ref C)))
    (hg : findIn K (.ref C) "__getattribute__" = some (some (.builtin "BaseException.__getattribute__"))) (hk : findIn K (.ref C) "__getattr__" = some none) (hs : subIn K (.ref C) (.type "BaseException") = some true) (hd : hasDictIn K C = true)
    (ha : findIn K (.ref C) "__class__" = some (some (.builtin "object.__class__"))) (hn : specialIn K (.builtin "object.__class__") "__get__" = some (some (.builtin "getset_descriptor.__get__"))) (ht : takesIn K (.builtin "object.__class__") = some true) (hm : mroIn K C (.type "object") = some true)
    (fno : findIn K (.ref C) fl = some none) (ks : Kits K C c ns) (ve : subIn K (.ref C) (.type "ValueError") = some true) (aS : nsIn K mainGlobals "SetError" = some (some (.ref CS)))
    (h1 : subIn K (.ref CS) (.type "BaseException") = some true) (hdS : hasDictIn K CS = true) (tS : typeIn K (.ref CS) = some (.type "type")) (h4 : subIn K (.ref C) (.ref CS) = some true) : ClsE K c fl ns :=
  ⟨C, a, ⟨hg, hk, hs, hd, ha, hn, ht, hm⟩, fno, ks.at_, kit_ve ve, CS, aS, exm_ref h1 hdS tS h4⟩

/-- the word, variant 1 -/
theorem WordAt.by1 {P : Program} {w : World} {K : Frag} {mg : Str → Option Value} {base : Heap} {xs : List (Str × Str)} {st : Stmt} {f CS : Addr} {oc kV doc pm cdv ct : Value} {od an : Option Addr} {osl : Array (Option Value)}
    (inK : K.In base) (gn : base.Ns mainGlobals mg)
    (a : nsIn K mainGlobals "_law_word" = some (some (.ref f))) (l : K.lookup f = some ⟨oc, od, .func (fnOf "_law_word" "_law_word" (defArgs st) (defBody st) (defScope st) .none kV doc pm an cdv ct), osl⟩) (cc : codeIn K cdv "_law_word" = true) (kk : keepIn K (.ref f) = true)
    (bn : ∀ (kV doc pm : Value) (an : Option Addr) (cdv ct : Value) (us : List Value), us.length = [("error" : Str)].length → bindArgs (fnOf "_law_word" "_law_word" (defArgs st) (defBody st) (defScope st) .none kV doc pm an cdv ct) ⟨us, []⟩ = pure ([("error" : Str)].zip us))
    (S : FnScope ["error", "heads", "found"] ["error"] (defScope st))
    (E : ∀ c fl, xs.lookup c = some fl → ClsE K c fl ["ItemError", "ArgumentError", "PaperError", "TextError"]) (hca : ∀ c fl, xs.lookup c = some fl → fl = if c = ("TextError" : Str) then ("at" : Str) else if c = ("CommandError" : Str) then ("line" : Str) else ("reason" : Str))
    (aS : nsIn K mainGlobals "SetError" = some (some (.ref CS))) (ni : nsIn K mainGlobals "isinstance" = some none) (nv : nsIn K mainGlobals "ValueError" = some none) (bv : bootBuiltins "ValueError" = some (.type "ValueError"))
    (le : (defScope st).names.lookup ("error" : Str) = some .local) (lh : (defScope st).names.lookup ("heads" : Str) = some .local) (lf : (defScope st).names.lookup ("found" : Str) = some .local)
    (gi : (defScope st).names.lookup ("isinstance" : Str) = some .globalImplicit) (g0 : (defScope st).names.lookup ("ItemError" : Str) = some .globalImplicit) (g1 : (defScope st).names.lookup ("ArgumentError" : Str) = some .globalImplicit)
    (g2 : (defScope st).names.lookup ("PaperError" : Str) = some .globalImplicit) (g3 : (defScope st).names.lookup ("TextError" : Str) = some .globalImplicit) (gv : (defScope st).names.lookup ("ValueError" : Str) = some .globalImplicit)
    {p1 p2 p3 p4 p5 p6 p7 p8 p9 p10 p11 p12 p13 p14 p15 p16 p17 p18 p19 p20 p21 p22 p23 p24 p25 p26 p27 p28 p29 p30 p31 p32 p33 p34 p35 p36 p37 p38 p39 p40 p41 p42 p43 p44 p45 p46 p47 p48 p49 p50 p51 p52 p53 p54 p55 p56 : Pos}
    (hbody : defBody st = [
      .Assign [.Name "heads" p1] (.List [.Constant (.str "item ") 0 p2, .Constant (.str "argument ") 0 p3, .Constant (.str "paper ") 0 p4] p5) p6,
      .Assign [.Name "found" p7] (.List [.Call (.Name "isinstance" p8) [.Name "error" p9, .Name "ItemError" p10] [] p11, .Call (.Name "isinstance" p12) [.Name "error" p13, .Name "ArgumentError" p14] [] p15,
        .Call (.Name "isinstance" p16) [.Name "error" p17, .Name "PaperError" p18] [] p19, .Call (.Name "isinstance" p20) [.Name "error" p21, .Name "TextError" p22] [] p23] p24) p25,
      .If (.BoolOp .Or [.Compare (.Call (.Attribute (.Name "found" p26) "count" p27) [.Constant (.bool true) 0 p28] [] p29) [.NotEq] [.Constant (.int 1) 0 p30] p31,
          .UnaryOp .Not (.Call (.Name "isinstance" p32) [.Name "error" p33, .Name "ValueError" p34] [] p35) p36] p37)
        [.Return (some (.Constant (.str "other") 0 p38)) p39] [] p40,
      .Return (some (.IfExp (.Subscript (.Name "found" p41) (.Constant (.int 3) 0 p42) p43) (.Attribute (.Name "error" p44) "at" p45)
        (.BinOp (.Subscript (.Name "heads" p46) (.Call (.Attribute (.Name "found" p47) "index" p48) [.Constant (.bool true) 0 p49] [] p50) p51) .Add (.Attribute (.Name "error" p52) "reason" p53) p54) p55)) p56])
    (hl1 : (p27.endLine == p29.line) = true) (hl2 : (p48.endLine == p50.line) = true) :
    WordAt P w K mg base (gxOf K mg xs) "_law_word" [("ItemError", .pre "item "), ("ArgumentError", .pre "argument "), ("PaperError", .pre "paper "), ("TextError", .self)] := by
  have F := fun_mk l cc kk
  exact ⟨⟨f, mg_of inK gn a, kk, word1 F S (F.binds bn) (wordK_of inK gn E) (fun c C fl h => hca c fl (ca_of h).1) (mg_none_of inK gn ni) (mg_none_of inK gn nv) bv le lh lf gi g0 g1 g2 g3 gv hbody hl1 hl2, _, F.binds bn⟩, exm_of_cls inK gn E aS⟩
end
end DL
namespace W
open PySem DL L2
variable {k : Nat} {Φ : Nat → Fn} {B : Int} {N : Nat}
/-! ## the law's turns -/
abbrev Row7 (B : Int) (N : Nat) (xs : List D) : Prop := xs.length = 7 ∧ ∀ x ∈ xs, Ab B N x
theorem Row7.mono {B B' : Int} {N N' : Nat} {xs : List D} (h : Row7 B N xs) (hB : B ≤ B') (hN : N ≤ N') : Row7 B' N' xs := ⟨h.1, fun x hx => (h.2 x hx).mono hB hN⟩
theorem odd_turn (dw : Draws Φ) (bt : Bt Φ 3) {xs : List D} (hx : Row7 B N xs) (hB : 100001 ≤ B) (hN : 21 ≤ N) (hN2 : N ≤ 1000000) {st : D} (hs : IsSt st) {s0 s2 s5 s6 s7 : Slot} {x : D} :
    ∃ (st' : D) (xs' : List D) (t6 t7 : Slot), evSs Φ BD30_2 [s0, .own st, s2, .own (.lst xs), .val x, s5, s6, s7] = .ok (.nx [s0, .own st', s2, .own (.lst xs'), .val x, s5, t6, t7]) ∧ Row7 (B + 40) (N + 1) xs' ∧ IsSt st' := by
  obtain ⟨v, s1, e1, v0, v1, h1⟩ := dw.dr st 7 (by omega) (by omega) hs
  obtain ⟨u, s2', e2, u0, u1, h2⟩ := dw.dr s1 2 (by omega) (by omega) h1
  obtain ⟨n, rfl⟩ : ∃ n : Nat, v = (n : Nat) := ⟨v.toNat, by omega⟩
  have hn : n < xs.length := by have := hx.1; omega
  have oe := odd_ev (Φ := Φ) (s0 := s0) (s1 := .own s1) (s2 := s2) (s3 := .own (.lst xs)) (s5 := s5) (s6 := .val (.int (n : Nat))) (s7 := s7) (x := x)
  have ix : opf .ix [.lst xs, .int (n : Nat)] = some (.val xs[n]) := by rw [opf_ixL, atI_nat (List.getElem?_eq_getElem hn)]; rfl
  have sx : ∀ y, setf (.lst xs) (.int (n : Nat)) y = some (.lst (xs.set n y)) := fun y => by rw [setf_l, ixN_nat hn]; rfl
  have hr : ∀ y, Ab (B + 40) (N + 1) y → Row7 (B + 40) (N + 1) (xs.set n y) := fun y hy => ⟨by rw [List.length_set]; exact hx.1, fun z hz => by
    rcases List.mem_or_eq_of_mem_set hz with h | rfl
    · exact (hx.2 z h).mono (by omega) (by omega)
    · exact hy⟩
  have p1 : evSs Φ (BD30_2.take 1) [s0, .own st, s2, .own (.lst xs), .val x, s5, s6, s7] = .ok (.nx [s0, .own s1, s2, .own (.lst xs), .val x, s5, .val (.int (n : Nat)), s7]) := by
    generalize D.lst xs = X at *
    generalize ((n : Nat) : Int) = ni at *
    simp [BD30_2, e1]
  have q : ∀ {r : R Sts Out}, evSs Φ BQ [s0, .own s1, s2, .own (.lst xs), .val x, s5, .val (.int (n : Nat)), .val (.lst (odA ++ odB ++ odC))] = r → evSs Φ BD30_2 [s0, .own st, s2, .own (.lst xs), .val x, s5, s6, s7] = r := fun {r} h => by
    rw [bd_parts, evSs_app, p1, thenR_nx, evSs_app, oe, thenR_nx]; exact h
  by_cases hu : u = 0
  · subst hu
    obtain ⟨y, st', e3, hy, h3⟩ := bt B N xs[n] s2' (hx.2 _ (List.getElem_mem hn)) (by omega) (by omega) hN2 h2
    have e3 : Φ 18 [s2', xs[n], .int 3] = _ := e3
    refine ⟨st', xs.set n y, .val (.int (n : Nat)), .val (.lst (odA ++ odB ++ odC)), q ?_, hr y hy, h3⟩
    have sy := sx y
    generalize D.lst (odA ++ odB ++ odC) = O at *
    generalize xs[n] = z at *
    generalize D.lst (xs.set n y) = X' at *
    have hl : (D.lst xs).isLst = true := rfl
    generalize D.lst xs = X at *
    generalize ((n : Nat) : Int) = ni at *
    simp [BQ, BD30_2, e2, ix, e3, sy, hl]
  · obtain ⟨y, st', e3, hy, h3⟩ := dw.pk s2' (odA ++ odB ++ odC) (by simp [odA]) (by decide) h2
    refine ⟨st', xs.set n y, .val (.int (n : Nat)), .val (.lst (odA ++ odB ++ odC)), q ?_, hr y ((od_ab y hy).mono (by omega) (by omega)), h3⟩
    have sy := sx y
    generalize D.lst (odA ++ odB ++ odC) = O at *
    generalize D.lst (xs.set n y) = X' at *
    have hl : (D.lst xs).isLst = true := rfl
    generalize D.lst xs = X at *
    generalize ((n : Nat) : Int) = ni at *
    simp [BQ, BD30_2, e2, hu, e3, sy, hl]
structure Lw (Φ : Nat → Fn) : Prop where
  dw : Draws Φ
  bt : Bt Φ 3
  st : ∀ ns : List Int, ∃ d, Φ 11 [.rol (ns.map .int)] = .ok (.own d, []) ∧ IsSt d
  ph : ∀ st : D, IsSt st → ∃ st', Φ 24 [st] = .ok (.val (.bl true), [st']) ∧ IsSt st'
  td : ∀ (way : Nat) (xs : List D), way < 7 → Row7 100200 30 xs → ∃ t : Str, Φ 29 [.int (way : Nat), .lst xs] = .ok (.val (.str t), []) ∧ Φ 28 [.int (way : Nat), .lst xs] = .ok (.val (.str t), [])
def some0 : List D := [.tup [.tup [.int 10, .str "right"], .tup [.int 30, .str "sign"], .tup [.int 50, .str "middle"]], .tup [.tup [.int 15, .int 0], .tup [.int 8, .int 3]], .tup [.tup [.int 3, .int 5], .tup [.int 7, .int 1]], .int 2, .int 11, .int 30, .int 6]
theorem some0_ab : Row7 100001 21 some0 := by
  have i0 : ∀ i : Int, -1 ≤ i → i ≤ 100001 → Ab 100001 21 (.int i) := fun i h1 h2 => .int i (by omega) (by omega)
  have i2 : ∀ i j : Int, -1 ≤ i → i ≤ 100001 → -1 ≤ j → j ≤ 100001 → Ab 100001 21 (.tup [.int i, .int j]) := fun i j a b c d => ab_two (i0 i a b) (i0 j c d) (by omega)
  have is : ∀ (i : Int) (s : Str), -1 ≤ i → i ≤ 100001 → PyData.strOk s = true → s.length ≤ 1000 → Ab 100001 21 (.tup [.int i, .str s]) := fun i s a b h1 h2 => ab_two (i0 i a b) (.str s h1 h2) (by omega)
  refine ⟨rfl, fun x hx => ?_⟩
  simp only [some0, List.mem_cons, List.not_mem_nil, or_false] at hx
  rcases hx with rfl | rfl | rfl | rfl | rfl | rfl | rfl
  · refine .tup _ (by simp) fun y hy => ?_
    simp only [List.mem_cons, List.not_mem_nil, or_false] at hy
    rcases hy with rfl | rfl | rfl
    · exact is _ _ (by decide) (by decide) (by decide +kernel) (by decide +kernel)
    · exact is _ _ (by decide) (by decide) (by decide +kernel) (by decide +kernel)
    · exact is _ _ (by decide) (by decide) (by decide +kernel) (by decide +kernel)
  · exact ab_two (i2 _ _ (by decide) (by decide) (by decide) (by decide)) (i2 _ _ (by decide) (by decide) (by decide) (by decide)) (by omega)
  · exact ab_two (i2 _ _ (by decide) (by decide) (by decide) (by decide)) (i2 _ _ (by decide) (by decide) (by decide) (by decide)) (by omega)
  · exact i0 _ (by decide) (by decide)
  · exact i0 _ (by decide) (by decide)
  · exact i0 _ (by decide) (by decide)
  · exact i0 _ (by decide) (by decide)
/-- the inner loop of odd things -/
theorem odd_loop (L : Lw Φ) {st : D} (hs : IsSt st) {s0 s4 s5 s6 s7 : Slot} {ci : Nat} :
    ∃ (st' : D) (xs' : List D) (t4 t6 t7 : Slot), evS Φ FR30_2 [s0, .own st, .val (.int (ci : Nat)), .own (.lst some0), s4, s5, s6, s7] = .ok (.nx [s0, .own st', .val (.int (ci : Nat)), .own (.lst xs'), t4, s5, t6, t7]) ∧ Row7 100200 30 xs' ∧ IsSt st' := by
  have main : ∀ (st1 : D) (m : Nat), m ≤ 3 → IsSt st1 → evVs Φ [.ife (.op (.cmp .Gt) [(.var 2), (.lit (.int 0))]) (.call 13 [true, false] [(.var 1), (.mk .lst [(.lit (.int 1)), (.lit (.int 1)), (.lit (.int 2)), (.lit (.int 3))])]) (.lit (.int 0))] [s0, .own st, .val (.int (ci : Nat)), .own (.lst some0), s4, s5, s6, s7] = .ok ([.int (m : Nat)], [s0, .own st1, .val (.int (ci : Nat)), .own (.lst some0), s4, s5, s6, s7]) →
    ∃ (st' : D) (xs' : List D) (t4 t6 t7 : Slot), evS Φ FR30_2 [s0, .own st, .val (.int (ci : Nat)), .own (.lst some0), s4, s5, s6, s7] = .ok (.nx [s0, .own st', .val (.int (ci : Nat)), .own (.lst xs'), t4, s5, t6, t7]) ∧ Row7 100200 30 xs' ∧ IsSt st' := by
    intro st1 m hm hs1 he
    obtain ⟨ρ', f1, st', xs', t4, t6, t7, f2, hx', hs'⟩ := for_ty (Φ := Φ) (t := .name 4 false) (k := .rng) (b := BD30_2) (List.range m) (fun (i : Nat) => D.int i)
      (fun pre ρ => ∃ st xs t4 t6 t7, ρ = [s0, .own st, .val (.int (ci : Nat)), .own (.lst xs), t4, s5, t6, t7] ∧ Row7 (100001 + 40 * (pre.length : Nat)) (21 + pre.length) xs ∧ IsSt st) he (rng1 (by omega) rfl) (fun pre i post ρ h ⟨st, xs, t4, t6, t7, hρ, hx, hst⟩ => by
        subst hρ
        have hp : pre.length < m := by
          have := congrArg List.length h
          simp at this; omega
        obtain ⟨st', xs', u6, u7, e, hx', hst'⟩ := odd_turn L.dw L.bt hx (by omega) (by omega) (by omega) hst (s0 := s0) (s2 := .val (.int (ci : Nat))) (s5 := s5) (s6 := t6) (s7 := t7) (x := .int (i : Nat))
        refine ⟨_, _, rfl, .inl e, st', xs', _, u6, u7, rfl, hx'.mono (by rw [List.length_append, List.length_singleton]; omega) (by rw [List.length_append, List.length_singleton]; omega), hst'⟩) ⟨st1, some0, s4, s6, s7, rfl, some0_ab, hs1⟩
    subst f2
    refine ⟨st', xs', t4, t6, t7, f1, hx'.mono (by rw [List.length_range]; omega) (by rw [List.length_range]; omega), hs'⟩
  by_cases hc : 0 < ci
  · obtain ⟨m, s1, e1, hm, h1⟩ := L.dw.pi st [1, 1, 2, 3] (by simp) (by simp) hs
    have e1 : Φ 13 [st, .lst [.int 1, .int 1, .int 2, .int 3]] = _ := e1
    obtain ⟨n, rfl⟩ : ∃ n : Nat, m = (n : Nat) := ⟨m.toNat, by simp at hm; omega⟩
    refine main s1 n (by simp at hm; omega) h1 ?_
    have hc' : (0 : Int) < (ci : Nat) := by omega
    generalize D.lst some0 = X at *
    generalize ((ci : Nat) : Int) = c at *
    simp [hc', e1]
  · obtain rfl : ci = 0 := by omega
    refine main st 0 (by omega) hs ?_
    generalize D.lst some0 = X at *
    simp
theorem way_loop (L : Lw Φ) {xs : List D} (hx : Row7 100200 30 xs) {s0 s1 s2 s4 s5 s6 s7 : Slot} :
    ∃ (t3 t5 : Slot), evS Φ FR30_3 [s0, s1, s2, .own (.lst xs), s4, s5, s6, s7] = .ok (.nx [s0, s1, s2, t3, s4, t5, s6, s7]) := by
  obtain ⟨ρ', f1, t3, t5, f2, _⟩ := for_ty (Φ := Φ) (t := .name 5 false) (k := .rng) (src := [.lit (.int 7)]) (b := BD30_3) (ρ := [s0, s1, s2, .own (.lst xs), s4, s5, s6, s7]) (ρ1 := [s0, s1, s2, .own (.lst xs), s4, s5, s6, s7]) (ds := [.int 7]) (List.range 7) (fun (i : Nat) => D.int i)
      (fun pre ρ => ∃ t3 t5, ρ = [s0, s1, s2, t3, s4, t5, s6, s7] ∧ (t3 = .own (.lst xs) ∨ t3 = .val (.lst xs))) rfl (rng1 (by omega) rfl) (fun pre i post ρ h ⟨t3, t5, hρ, h3⟩ => by
        subst hρ
        have hi : i < 7 := by
          have : i ∈ List.range 7 := by rw [h]; simp
          simpa using this
        obtain ⟨t, e1, e2⟩ := L.td i xs hi hx
        refine ⟨[s0, s1, s2, t3, s4, .val (.int (i : Nat)), s6, s7], [s0, s1, s2, .val (.lst xs), s4, .val (.int (i : Nat)), s6, s7], rfl, .inl ?_, _, _, rfl, .inr rfl⟩
        generalize D.lst xs = X at *
        generalize ((i : Nat) : Int) = ii at *
        rcases h3 with rfl | rfl <;> simp [BD30_3, e1, e2]) ⟨_, _, rfl, .inl rfl⟩
  subst f2
  exact ⟨t3, t5, f1⟩
theorem some0_mk : mkf .lst [.tup [.tup [.int 10, .str "right"], .tup [.int 30, .str "sign"], .tup [.int 50, .str "middle"]], .tup [.tup [.int 15, .int 0], .tup [.int 8, .int 3]], .tup [.tup [.int 3, .int 5], .tup [.int 7, .int 1]], .int 2, .int 11, .int 30, .int 6] = some (.own (.lst some0)) := mkf_lst (by decide)
theorem law_turn (L : Lw Φ) {st : D} (hs : IsSt st) {s0 s3 s4 s5 s6 s7 : Slot} {ci : Nat} :
    ∃ (st' : D) (t3 t4 t5 t6 t7 : Slot), evSs Φ BD30_4 [s0, .own st, .val (.int (ci : Nat)), s3, s4, s5, s6, s7] = .ok (.nx [s0, .own st', .val (.int (ci : Nat)), t3, t4, t5, t6, t7]) ∧ IsSt st' := by
  obtain ⟨st', xs, t4, t6, t7, e1, hx, hs'⟩ := odd_loop L hs (s0 := s0) (s4 := s4) (s5 := s5) (s6 := s6) (s7 := s7) (ci := ci)
  obtain ⟨t3, t5, e2⟩ := way_loop L hx (s0 := s0) (s1 := .own st') (s2 := .val (.int (ci : Nat))) (s4 := t4) (s5 := s5) (s6 := t6) (s7 := t7)
  refine ⟨st', t3, t4, t5, t6, t7, ?_, hs'⟩
  have mk := some0_mk
  generalize D.lst some0 = X at *
  generalize D.lst xs = Y at *
  generalize ((ci : Nat) : Int) = c at *
  simp [BD30_4, mk, e1, e2]
theorem body30 (L : Lw Φ) (ns : List Int) : runD Φ D30 [.rol (ns.map .int)] = .ok (.val (.bl true), []) := by
  obtain ⟨st0, e0, h0⟩ := L.st ns
  obtain ⟨st1, e1, h1⟩ := L.ph st0 h0
  obtain ⟨st2, e2, h2⟩ := L.ph st1 h1
  generalize D.rol (ns.map .int) = X at *
  obtain ⟨ρ', f1, st', t2, t3, t4, t5, t6, t7, f2, hs', _⟩ := for_ty (Φ := Φ) (t := .name 2 false) (k := .rng) (src := [.lit (.int 9)]) (b := BD30_4)
    (ρ := [.val X, .own st2, .emp, .emp, .emp, .emp, .emp, .emp]) (ρ1 := [.val X, .own st2, .emp, .emp, .emp, .emp, .emp, .emp]) (ds := [.int 9]) (List.range 9) (fun (i : Nat) => D.int i)
    (fun _ ρ => ∃ st t2 t3 t4 t5 t6 t7, ρ = [.val X, .own st, t2, t3, t4, t5, t6, t7] ∧ IsSt st ∧ True) rfl (rng1 (by omega) rfl) (fun pre i post ρ h ⟨st, t2, t3, t4, t5, t6, t7, hρ, hst, _⟩ => by
      subst hρ
      obtain ⟨st', u3, u4, u5, u6, u7, e, hst'⟩ := law_turn L hst (s0 := .val X) (s3 := t3) (s4 := t4) (s5 := t5) (s6 := t6) (s7 := t7) (ci := i)
      exact ⟨[.val X, .own st, .val (.int i), t3, t4, t5, t6, t7], _, rfl, .inl e, st', _, u3, u4, u5, u6, u7, rfl, hst', trivial⟩) ⟨st2, _, _, _, _, _, _, rfl, h2, trivial⟩
  subst f2
  have f1' : evS Φ FR30_4 _ = _ := f1
  have fin : evSs Φ n30 [.val X, .emp, .emp, .emp, .emp, .emp, .emp, .emp] = .ok (.rt (.val (.bl true)) [.val X, .own st', t2, t3, t4, t5, t6, t7]) := by
    simp [n30, e0, e1, e2, f1']
  exact runD_rt (d := D30) (ds := [X]) rfl fin rfl rfl
theorem row7_eq {xs : List D} (h : xs.length = 7) : ∃ a b c d e f g, xs = [a, b, c, d, e, f, g] := by
  match xs, h with
  | [a, b, c, d, e, f, g], _ => exact ⟨a, b, c, d, e, f, g, rfl⟩
theorem lw : Lw (phi tab (k+8)) where
  dw := draws_phi (k := k+6)
  bt := G_bt 3 (k+2)
  st := fun ns => f11 (k := k+7)
  ph := fun st hs => by
    obtain ⟨st', h1, h2⟩ := body24 (Φ := phi tab (k+7)) (pz (k := k+1)) hs
    exact ⟨st', by show phi tab (k+7+1) _ _ = _; rw [P24]; exact h1, h2⟩
  td := fun way xs hw hx => by
    obtain ⟨s, f, r, g, b, e, o, rfl⟩ := row7_eq hx.1
    have as := hx.2 s (by simp)
    have af := hx.2 f (by simp)
    have ar := hx.2 r (by simp)
    have ag := hx.2 g (by simp)
    have ab := hx.2 b (by simp)
    have ae := hx.2 e (by simp)
    have ao := hx.2 o (by simp)
    refine ⟨dueS way (badW way s f r g b e o), ?_, ?_⟩
    · show phi tab (k+7+1) _ _ = _
      rw [P29]
      exact body29 hw rfl (asks (k := k+1) as af ar ag ab ae ao (by omega) hw)
    · show phi tab (k+7+1) _ _ = _
      rw [P28]
      exact body28 (B := 100200) (N := 30) (fun d hd => by show phi tab (k+6+1) _ _ = _; rw [P25]; exact abody25 (G_aW (k := k+5)) hd) (fun d hd => by show phi tab (k+6+1) _ _ = _; rw [P26]; exact abody26 (G_aW (k := k+5)) hd) (fun d hd => by show phi tab (k+6+1) _ _ = _; rw [P27]; exact abody27 (G_aW (k := k+5)) hd (by omega)) (G_aW (k := k+6)) as af ar ag ab ae ao hw rfl
theorem ans (ns : List Int) (h : ns.length ≤ 63) : phi tab 60 30 [.rol (ns.map .int)] = .ok (.val (.bl true), []) := by
  have e : phi tab (59+1) 30 = runD (phi tab (51+8)) D30 := P30
  show phi tab (59+1) 30 _ = _
  rw [e]
  exact body30 lw ns
end W
open PySem PySem.W PyProof.Rows
set_option maxHeartbeats 0 in
theorem PySem.Challenge.cw_setinlines_k23_papers_and_arguments_of_s_holds : PySem.Challenge.rw_setinlines_k23_papers_and_arguments_of_s.Holds := by
  w_on; o_law; k_head; (case hw => w_witness2)
  k_fill
  refine DL.law_end (l := PySem.Challenge.rw_setinlines_k23_papers_and_arguments_of_s) (n := 63) (k := 60) (j := 30) (tab := W.tab) (cs := W.cns) (bs := W.bns) (ds := W.dns) (xs := W.xcs) (wd := W.wdd) rfl (by decide) rfl ⟨rfl, by decide, by decide⟩ (fun w h Y => PySem.W.kIn_of Y) rfl rfl rfl ?qst ?qhb ?qhc ?qhd ?qhx ?qhw W.ans
  case qst =>
    intro w
    refine .cons (.by (ps := ["value"]) (Γ := W.g0) (n := 60) (st := W.tp 7) ?dd W.s0 rfl rfl rfl rfl W.c0 rfl rfl rfl rfl rfl rfl) ?_
    case dd =>
      refine' DL.DefAt.by (fun _ _ _ _ _ _ us hl => match us, hl with | [_], _ => rfl) ?a ?l ?c ?k
      (case a => k_is); (case l => k_is); (case c => k_is); (case k => k_is)
    refine .cons (.by (ps := ["stops"]) (Γ := W.g1) (n := 60) (st := W.tp 12) ?dd W.s1 rfl rfl rfl rfl W.c1 rfl rfl rfl rfl rfl rfl) ?_
    case dd =>
      refine' DL.DefAt.by (fun _ _ _ _ _ _ us hl => match us, hl with | [_], _ => rfl) ?a ?l ?c ?k
      (case a => k_is); (case l => k_is); (case c => k_is); (case k => k_is)
    refine .cons (.by (ps := ["fields"]) (Γ := W.g2) (n := 60) (st := W.tp 13) ?dd W.s2 rfl rfl rfl rfl W.c2 rfl rfl rfl rfl rfl rfl) ?_
    case dd =>
      refine' DL.DefAt.by (fun _ _ _ _ _ _ us hl => match us, hl with | [_], _ => rfl) ?a ?l ?c ?k
      (case a => k_is); (case l => k_is); (case c => k_is); (case k => k_is)
    refine .cons (.by (ps := ["stop", "field"]) (Γ := W.g3) (n := 60) (st := W.tp 14) ?dd W.s3 rfl rfl rfl rfl W.c3 rfl rfl rfl rfl rfl rfl) ?_
    case dd =>
      refine' DL.DefAt.by (fun _ _ _ _ _ _ us hl => match us, hl with | [_, _], _ => rfl) ?a ?l ?c ?k
      (case a => k_is); (case l => k_is); (case c => k_is); (case k => k_is)
    refine .cons (.by (ps := ["stops", "fields"]) (Γ := W.g4) (n := 60) (st := W.tp 15) ?dd W.s4 rfl rfl rfl rfl W.c4 rfl rfl rfl rfl rfl rfl) ?_
    case dd =>
      refine' DL.DefAt.by (fun _ _ _ _ _ _ us hl => match us, hl with | [_, _], _ => rfl) ?a ?l ?c ?k
      (case a => k_is); (case l => k_is); (case c => k_is); (case k => k_is)
    refine .cons (.by (ps := ["stops", "fields"]) (Γ := W.g5) (n := 60) (st := W.tp 16) ?dd W.s5 rfl rfl rfl rfl W.c5 rfl rfl rfl rfl rfl rfl) ?_
    case dd =>
      refine' DL.DefAt.by (fun _ _ _ _ _ _ us hl => match us, hl with | [_, _], _ => rfl) ?a ?l ?c ?k
      (case a => k_is); (case l => k_is); (case c => k_is); (case k => k_is)
    refine .cons (.by (ps := ["stops", "fields"]) (Γ := W.g6) (n := 60) (st := W.tp 17) ?dd W.s6 rfl rfl rfl rfl W.c6 rfl rfl rfl rfl rfl rfl) ?_
    case dd =>
      refine' DL.DefAt.by (fun _ _ _ _ _ _ us hl => match us, hl with | [_, _], _ => rfl) ?a ?l ?c ?k
      (case a => k_is); (case l => k_is); (case c => k_is); (case k => k_is)
    refine .cons (.by (ps := ["stops", "fields", "rows"]) (Γ := W.g7) (n := 60) (st := W.tp 18) ?dd W.s7 rfl rfl rfl rfl W.c7 rfl rfl rfl rfl rfl rfl) ?_
    case dd =>
      refine' DL.DefAt.by (fun _ _ _ _ _ _ us hl => match us, hl with | [_, _, _], _ => rfl) ?a ?l ?c ?k
      (case a => k_is); (case l => k_is); (case c => k_is); (case k => k_is)
    refine .cons (.by (ps := ["rows", "gap"]) (Γ := W.g8) (n := 60) (st := W.tp 19) ?dd W.s8 rfl rfl rfl rfl W.c8 rfl rfl rfl rfl rfl rfl) ?_
    case dd =>
      refine' DL.DefAt.by (fun _ _ _ _ _ _ us hl => match us, hl with | [_, _], _ => rfl) ?a ?l ?c ?k
      (case a => k_is); (case l => k_is); (case c => k_is); (case k => k_is)
    refine .cons (.by (ps := ["fields"]) (Γ := W.g9) (n := 60) (st := W.tp 20) ?dd W.s9 rfl rfl rfl rfl W.c9 rfl rfl rfl rfl rfl rfl) ?_
    case dd =>
      refine' DL.DefAt.by (fun _ _ _ _ _ _ us hl => match us, hl with | [_], _ => rfl) ?a ?l ?c ?k
      (case a => k_is); (case l => k_is); (case c => k_is); (case k => k_is)
    refine .cons (.by (ps := ["begin", "end", "own"]) (Γ := W.g10) (n := 60) (st := W.tp 21) ?dd W.s10 rfl rfl rfl rfl W.c10 rfl rfl rfl rfl rfl rfl) ?_
    case dd =>
      refine' DL.DefAt.by (fun _ _ _ _ _ _ us hl => match us, hl with | [_, _, _], _ => rfl) ?a ?l ?c ?k
      (case a => k_is); (case l => k_is); (case c => k_is); (case k => k_is)
    refine .cons (.by (ps := ["script"]) (Γ := W.g11) (n := 60) (st := W.tp 23) ?dd W.s11 rfl rfl rfl rfl W.c11 rfl rfl rfl rfl rfl rfl) ?_
    case dd =>
      refine' DL.DefAt.by (fun _ _ _ _ _ _ us hl => match us, hl with | [_], _ => rfl) ?a ?l ?c ?k
      (case a => k_is); (case l => k_is); (case c => k_is); (case k => k_is)
    refine .cons (.by (ps := ["state", "many"]) (Γ := W.g12) (n := 60) (st := W.tp 24) ?dd W.s12 rfl rfl rfl rfl W.c12 rfl rfl rfl rfl rfl rfl) ?_
    case dd =>
      refine' DL.DefAt.by (fun _ _ _ _ _ _ us hl => match us, hl with | [_, _], _ => rfl) ?a ?l ?c ?k
      (case a => k_is); (case l => k_is); (case c => k_is); (case k => k_is)
    refine .cons (.by (ps := ["state", "some"]) (Γ := W.g13) (n := 60) (st := W.tp 25) ?dd W.s13 rfl rfl rfl rfl W.c13 rfl rfl rfl rfl rfl rfl) ?_
    case dd =>
      refine' DL.DefAt.by (fun _ _ _ _ _ _ us hl => match us, hl with | [_, _], _ => rfl) ?a ?l ?c ?k
      (case a => k_is); (case l => k_is); (case c => k_is); (case k => k_is)
    refine .cons (.by (ps := ["actual", "due"]) (Γ := W.g14) (n := 60) (st := W.tp 26) ?dd W.s14 rfl rfl rfl rfl W.c14 rfl rfl rfl rfl rfl rfl) ?_
    case dd =>
      refine' DL.DefAt.by (fun _ _ _ _ _ _ us hl => match us, hl with | [_, _], _ => rfl) ?a ?l ?c ?k
      (case a => k_is); (case l => k_is); (case c => k_is); (case k => k_is)
    refine .cons (.by (ps := ["way", "some"]) (Γ := W.g15) (n := 60) (st := W.tp 27) ?dd W.s15 rfl rfl rfl rfl W.c15 rfl rfl rfl rfl rfl rfl) ?_
    case dd =>
      refine' DL.DefAt.by (fun _ _ _ _ _ _ us hl => match us, hl with | [_, _], _ => rfl) ?a ?l ?c ?k
      (case a => k_is); (case l => k_is); (case c => k_is); (case k => k_is)
    refine .cons (.by (ps := ["error"]) (Γ := W.g16) (n := 60) (st := W.tp 28) ?dd W.s16 rfl rfl rfl rfl W.c16 rfl rfl rfl rfl rfl rfl) ?_
    case dd =>
      refine' DL.DefAt.by (fun _ _ _ _ _ _ us hl => match us, hl with | [_], _ => rfl) ?a ?l ?c ?k
      (case a => k_is); (case l => k_is); (case c => k_is); (case k => k_is)
    refine .cons (.by (ps := ["value", "least", "most"]) (Γ := W.g17) (n := 60) (st := W.tp 29) ?dd W.s17 rfl rfl rfl rfl W.c17 rfl rfl rfl rfl rfl rfl) ?_
    case dd =>
      refine' DL.DefAt.by (fun _ _ _ _ _ _ us hl => match us, hl with | [_, _, _], _ => rfl) ?a ?l ?c ?k
      (case a => k_is); (case l => k_is); (case c => k_is); (case k => k_is)
    refine .cons (.by (ps := ["state", "value", "depth"]) (Γ := W.g18) (n := 60) (st := W.tp 30) ?dd W.s18 rfl rfl rfl rfl W.c18 rfl rfl rfl rfl rfl rfl) ?_
    case dd =>
      refine' DL.DefAt.by (fun _ _ _ _ _ _ us hl => match us, hl with | [_, _, _], _ => rfl) ?a ?l ?c ?k
      (case a => k_is); (case l => k_is); (case c => k_is); (case k => k_is)
    refine .cons (.by (ps := ["state", "many", "top"]) (Γ := W.g19) (n := 60) (st := W.tp 31) ?dd W.s19 rfl rfl rfl rfl W.c19 rfl rfl rfl rfl rfl rfl) ?_
    case dd =>
      refine' DL.DefAt.by (fun _ _ _ _ _ _ us hl => match us, hl with | [_, _, _], _ => rfl) ?a ?l ?c ?k
      (case a => k_is); (case l => k_is); (case c => k_is); (case k => k_is)
    refine .cons (.by (ps := ["state", "many", "top"]) (Γ := W.g20) (n := 60) (st := W.tp 32) ?dd W.s20 rfl rfl rfl rfl W.c20 rfl rfl rfl rfl rfl rfl) ?_
    case dd =>
      refine' DL.DefAt.by (fun _ _ _ _ _ _ us hl => match us, hl with | [_, _, _], _ => rfl) ?a ?l ?c ?k
      (case a => k_is); (case l => k_is); (case c => k_is); (case k => k_is)
    refine .cons (.by (ps := ["stop", "field"]) (Γ := W.g21) (n := 60) (st := W.tp 33) ?dd W.s21 rfl rfl rfl rfl W.c21 rfl rfl rfl rfl rfl rfl) ?_
    case dd =>
      refine' DL.DefAt.by (fun _ _ _ _ _ _ us hl => match us, hl with | [_, _], _ => rfl) ?a ?l ?c ?k
      (case a => k_is); (case l => k_is); (case c => k_is); (case k => k_is)
    refine .cons (.by (ps := ["stops", "fields"]) (Γ := W.g22) (n := 60) (st := W.tp 34) ?dd W.s22 rfl rfl rfl rfl W.c22 rfl rfl rfl rfl rfl rfl) ?_
    case dd =>
      refine' DL.DefAt.by (fun _ _ _ _ _ _ us hl => match us, hl with | [_, _], _ => rfl) ?a ?l ?c ?k
      (case a => k_is); (case l => k_is); (case c => k_is); (case k => k_is)
    refine .cons (.by (ps := ["stops", "fields", "rows"]) (Γ := W.g23) (n := 60) (st := W.tp 35) ?dd W.s23 rfl rfl rfl rfl W.c23 rfl rfl rfl rfl rfl rfl) ?_
    case dd =>
      refine' DL.DefAt.by (fun _ _ _ _ _ _ us hl => match us, hl with | [_, _, _], _ => rfl) ?a ?l ?c ?k
      (case a => k_is); (case l => k_is); (case c => k_is); (case k => k_is)
    refine .cons (.by (ps := ["state"]) (Γ := W.g24) (n := 60) (st := W.tp 36) ?dd W.s24 rfl rfl rfl rfl W.c24 rfl rfl rfl rfl rfl rfl) ?_
    case dd =>
      refine' DL.DefAt.by (fun _ _ _ _ _ _ us hl => match us, hl with | [_], _ => rfl) ?a ?l ?c ?k
      (case a => k_is); (case l => k_is); (case c => k_is); (case k => k_is)
    refine .cons (.by (ps := ["stops"]) (Γ := W.g25) (n := 60) (st := W.tp 37) ?dd W.s25 rfl rfl rfl rfl W.c25 rfl rfl rfl rfl rfl rfl) ?_
    case dd =>
      refine' DL.DefAt.by (fun _ _ _ _ _ _ us hl => match us, hl with | [_], _ => rfl) ?a ?l ?c ?k
      (case a => k_is); (case l => k_is); (case c => k_is); (case k => k_is)
    refine .cons (.by (ps := ["fields"]) (Γ := W.g26) (n := 60) (st := W.tp 38) ?dd W.s26 rfl rfl rfl rfl W.c26 rfl rfl rfl rfl rfl rfl) ?_
    case dd =>
      refine' DL.DefAt.by (fun _ _ _ _ _ _ us hl => match us, hl with | [_], _ => rfl) ?a ?l ?c ?k
      (case a => k_is); (case l => k_is); (case c => k_is); (case k => k_is)
    refine .cons (.by (ps := ["rows"]) (Γ := W.g27) (n := 60) (st := W.tp 39) ?dd W.s27 rfl rfl rfl rfl W.c27 rfl rfl rfl rfl rfl rfl) ?_
    case dd =>
      refine' DL.DefAt.by (fun _ _ _ _ _ _ us hl => match us, hl with | [_], _ => rfl) ?a ?l ?c ?k
      (case a => k_is); (case l => k_is); (case c => k_is); (case k => k_is)
    refine .cons (.by (ps := ["way", "some"]) (Γ := W.g28) (n := 60) (st := W.tp 40) ?dd W.s28 rfl rfl rfl rfl W.c28 rfl rfl rfl rfl rfl rfl) ?_
    case dd =>
      refine' DL.DefAt.by (fun _ _ _ _ _ _ us hl => match us, hl with | [_, _], _ => rfl) ?a ?l ?c ?k
      (case a => k_is); (case l => k_is); (case c => k_is); (case k => k_is)
    refine .cons (.by (ps := ["way", "some"]) (Γ := W.g29) (n := 60) (st := W.tp 41) ?dd W.s29 rfl rfl rfl rfl W.c29 rfl rfl rfl rfl rfl rfl) ?_
    case dd =>
      refine' DL.DefAt.by (fun _ _ _ _ _ _ us hl => match us, hl with | [_, _], _ => rfl) ?a ?l ?c ?k
      (case a => k_is); (case l => k_is); (case c => k_is); (case k => k_is)
    refine .cons (.by (ps := ["script"]) (Γ := W.g30) (n := 60) (st := W.tp 42) ?dd W.s30 rfl rfl rfl rfl W.c30 rfl rfl rfl rfl rfl rfl) ?_
    case dd =>
      refine' DL.DefAt.by (fun _ _ _ _ _ _ us hl => match us, hl with | [_], _ => rfl) ?a ?l ?c ?k
      (case a => k_is); (case l => k_is); (case c => k_is); (case k => k_is)
    exact .nil
  case qhb =>
    intro w x hx
    have hx := List.mem_of_elem_eq_true hx
    simp only [W.bns, List.mem_cons, List.not_mem_nil, or_false] at hx
    rcases hx with rfl | rfl | rfl | rfl | rfl | rfl | rfl | rfl | rfl | rfl | rfl | rfl | rfl | rfl | rfl
    · (show PySem.W.nsIn _ PySem.mainGlobals ("len" : PySem.Str) = some none); k_is
    · (show PySem.W.nsIn _ PySem.mainGlobals ("int" : PySem.Str) = some none); k_is
    · (show PySem.W.nsIn _ PySem.mainGlobals ("abs" : PySem.Str) = some none); k_is
    · (show PySem.W.nsIn _ PySem.mainGlobals ("all" : PySem.Str) = some none); k_is
    · (show PySem.W.nsIn _ PySem.mainGlobals ("max" : PySem.Str) = some none); k_is
    · (show PySem.W.nsIn _ PySem.mainGlobals ("tuple" : PySem.Str) = some none); k_is
    · (show PySem.W.nsIn _ PySem.mainGlobals ("list" : PySem.Str) = some none); k_is
    · (show PySem.W.nsIn _ PySem.mainGlobals ("repr" : PySem.Str) = some none); k_is
    · (show PySem.W.nsIn _ PySem.mainGlobals ("isinstance" : PySem.Str) = some none); k_is
    · (show PySem.W.nsIn _ PySem.mainGlobals ("bool" : PySem.Str) = some none); k_is
    · (show PySem.W.nsIn _ PySem.mainGlobals ("str" : PySem.Str) = some none); k_is
    · (show PySem.W.nsIn _ PySem.mainGlobals ("range" : PySem.Str) = some none); k_is
    · (show PySem.W.nsIn _ PySem.mainGlobals ("zip" : PySem.Str) = some none); k_is
    · (show PySem.W.nsIn _ PySem.mainGlobals ("sorted" : PySem.Str) = some none); k_is
    · (show PySem.W.nsIn _ PySem.mainGlobals ("dict" : PySem.Str) = some none); k_is
  case qhc =>
    intro w x d hx
    have hx := PySem.mem_of_lookup hx
    simp only [W.cns, List.mem_cons, List.not_mem_nil, or_false, Prod.mk.injEq] at hx
    rcases hx with ⟨rfl, rfl⟩ | ⟨rfl, rfl⟩ | ⟨rfl, rfl⟩
    · refine' DL.CstAt.int ?h; (case h => k_is)
    · refine' DL.CstAt.int ?h; (case h => k_is)
    · refine' DL.CstAt.tup ?h ?l ?hs ?f
      (case h => k_is); (case l => k_is); (case hs => decide)
      (case f => exact .cons .str (.cons .str (.cons .str (.cons .str (.nil)))))
  case qhd =>
    intro w x kvs hx
    have hx := PySem.mem_of_lookup hx
    simp only [W.dns, List.mem_cons, List.not_mem_nil, or_false, Prod.mk.injEq] at hx
  case qhx =>
    intro w c fl hx
    have hx := PySem.mem_of_lookup hx
    simp only [W.xcs, List.mem_cons, List.not_mem_nil, or_false, Prod.mk.injEq] at hx
    rcases hx with ⟨rfl, rfl⟩ | ⟨rfl, rfl⟩
    · refine' DL.ClsAt.by (st := DL.initSt (W.tp 4)) (r := "reason") (qual := "ArgumentError.__init__") (txt := (.cat (.k "an argument is refused: ") .arg)) ?a ?lC ?lS ?sa ?eC ?tC ?kC ?iC ?tI ?lI ?cI ?lcc ?lcd ?hvs ?hfile ?iS ?opq ?fno ?top ?su ?ss ?sc rfl rfl (fun us hl => match us, hl with | [_, _], _ => rfl) (by decide +kernel) (by decide +kernel) rfl ⟨_, _, _, rfl, ⟨_, _, rfl⟩, ⟨_, _, _, rfl⟩⟩ (by decide +kernel) (fun _ => rfl)
      (case a => k_is); (case lC => k_is); (case lS => k_is); (case sa => k_is); (case eC => k_is); (case tC => k_is); (case kC => k_is); (case iC => k_is); (case tI => k_is); (case lI => k_is); (case cI => k_is); (case lcc => k_is); (case lcd => k_is)
      (case hvs => rfl); (case hfile => first | rfl | decide +kernel); (case iS => k_is); (case opq => k_is); (case fno => k_is); (case top => first | rfl | decide +kernel); (case su => k_is); (case ss => k_is)
      (case sc => exact ⟨rfl, rfl, rfl, by decide, rfl, rfl, rfl, rfl, rfl, by decide +kernel, DL.free_of (by decide +kernel), by decide, by decide, by decide⟩)
    · refine' DL.ClsAt.by (st := DL.initSt (W.tp 5)) (r := "reason") (qual := "PaperError.__init__") (txt := (.cat (.k "the paper is refused: ") .arg)) ?a ?lC ?lS ?sa ?eC ?tC ?kC ?iC ?tI ?lI ?cI ?lcc ?lcd ?hvs ?hfile ?iS ?opq ?fno ?top ?su ?ss ?sc rfl rfl (fun us hl => match us, hl with | [_, _], _ => rfl) (by decide +kernel) (by decide +kernel) rfl ⟨_, _, _, rfl, ⟨_, _, rfl⟩, ⟨_, _, _, rfl⟩⟩ (by decide +kernel) (fun _ => rfl)
      (case a => k_is); (case lC => k_is); (case lS => k_is); (case sa => k_is); (case eC => k_is); (case tC => k_is); (case kC => k_is); (case iC => k_is); (case tI => k_is); (case lI => k_is); (case cI => k_is); (case lcc => k_is); (case lcd => k_is)
      (case hvs => rfl); (case hfile => first | rfl | decide +kernel); (case iS => k_is); (case opq => k_is); (case fno => k_is); (case top => first | rfl | decide +kernel); (case su => k_is); (case ss => k_is)
      (case sc => exact ⟨rfl, rfl, rfl, by decide, rfl, rfl, rfl, rfl, rfl, by decide +kernel, DL.free_of (by decide +kernel), by decide, by decide, by decide⟩)
  case qhw =>
    intro w mg base inB gb nm hs hx
    cases hx
    refine' DL.WordAt.by1 (st := W.tp 28) inB gb ?a ?l ?c ?k (fun _ _ _ _ _ _ us hl => match us, hl with | [_], _ => rfl) W.s16 ?E ?hca ?aS ?ni ?nv (by decide +kernel) rfl rfl rfl rfl rfl rfl rfl rfl rfl rfl rfl rfl
    (case a => k_is); (case l => k_is); (case c => k_is); (case k => k_is); (case aS => k_is); (case ni => k_is); (case nv => k_is)
    case hca =>
      intro c fl hx
      have hx := PySem.mem_of_lookup hx
      simp only [W.xcs, List.mem_cons, List.not_mem_nil, or_false, Prod.mk.injEq] at hx
      rcases hx with ⟨rfl, rfl⟩ | ⟨rfl, rfl⟩ <;> decide
    case E =>
      intro c fl hx
      have hx := PySem.mem_of_lookup hx
      simp only [W.xcs, List.mem_cons, List.not_mem_nil, or_false, Prod.mk.injEq] at hx
      rcases hx with ⟨rfl, rfl⟩ | ⟨rfl, rfl⟩
      · refine' DL.ClsE.by ?a ?hg ?hk ?hs ?hd ?ha ?hn ?ht ?hm ?fno ?ks ?ve ?aS ?h1 ?hdS ?tS ?h4
        (case a => k_is); (case hg => k_is); (case hk => k_is); (case hs => k_is); (case hd => k_is); (case ha => k_is); (case hn => k_is); (case ht => k_is); (case hm => k_is); (case fno => k_is)
        (case ve => k_is); (case aS => k_is); (case h1 => k_is); (case hdS => k_is); (case tS => k_is); (case h4 => k_is)
        case ks =>
          refine' .ref (by decide) ?z32a ?z32n ?z32c ?z32t ?z32s ?_
          (case z32a => k_is); (case z32n => decide); (case z32c => k_is); (case z32t => k_is); (case z32s => k_is)
          refine' .self (by decide) ?z34a ?_
          (case z34a => k_is)
          refine' .ref (by decide) ?z36a ?z36n ?z36c ?z36t ?z36s ?_
          (case z36a => k_is); (case z36n => decide); (case z36c => k_is); (case z36t => k_is); (case z36s => k_is)
          refine' .ref (by decide) ?z38a ?z38n ?z38c ?z38t ?z38s ?_
          (case z38a => k_is); (case z38n => decide); (case z38c => k_is); (case z38t => k_is); (case z38s => k_is)
          exact .nil
      · refine' DL.ClsE.by ?a ?hg ?hk ?hs ?hd ?ha ?hn ?ht ?hm ?fno ?ks ?ve ?aS ?h1 ?hdS ?tS ?h4
        (case a => k_is); (case hg => k_is); (case hk => k_is); (case hs => k_is); (case hd => k_is); (case ha => k_is); (case hn => k_is); (case ht => k_is); (case hm => k_is); (case fno => k_is)
        (case ve => k_is); (case aS => k_is); (case h1 => k_is); (case hdS => k_is); (case tS => k_is); (case h4 => k_is)
        case ks =>
          refine' .ref (by decide) ?z45a ?z45n ?z45c ?z45t ?z45s ?_
          (case z45a => k_is); (case z45n => decide); (case z45c => k_is); (case z45t => k_is); (case z45s => k_is)
          refine' .ref (by decide) ?z47a ?z47n ?z47c ?z47t ?z47s ?_
          (case z47a => k_is); (case z47n => decide); (case z47c => k_is); (case z47t => k_is); (case z47s => k_is)
          refine' .self (by decide) ?z49a ?_
          (case z49a => k_is)
          refine' .ref (by decide) ?z51a ?z51n ?z51c ?z51t ?z51s ?_
          (case z51a => k_is); (case z51n => decide); (case z51c => k_is); (case z51t => k_is); (case z51s => k_is)
          exact .nil
