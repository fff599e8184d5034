import PyProof.Rows.All
import Wide.All
import OpenK.AllK
import Wide.FinOn
import HandS.ForMost
import HandS.ForExc
import HandS.Zip
import HandS.Walk
import HandS.Deep
import HandS.Flow
import HandS.IsInst
import HandS.TupAny
import HandS.TupLe
import HandS.TryOnly
import HandS.Style
import HandS.Wide
import PyProof.ReprReads
import PyProof.ReprRoads
import HandS.More
import PyProof.StrLawsRepr
import PySem.Challenge.RW_setinlines_k02_lines_that_are_set
set_option Elab.async false
set_option linter.all false
set_option maxRecDepth 100000
set_option maxHeartbeats 1000000
/-! zip of two sequences, each a list or a tuple -/
namespace ZX
open PySem PySem.Spec PyProof.Rows L2
open PySem.Sem (wp)
inductive Kd where
  | l | t
/-- an iterator at c over b, at its i-th item -/
def Itr (k : Kd) (h : Heap) (c b : Addr) (i : Nat) : Prop := match k with
  | .l => h.IsListIter c b i
  | .t => h.IsTupleIter c b i
def Seq' (k : Kd) (h : Heap) (b : Addr) (xs : Array Value) : Prop := match k with
  | .l => h.IsList b xs
  | .t => h.IsTuple b xs
variable {k kx ky : Kd}
theorem Itr.far {h h' : Heap} {c b d : Addr} {i : Nat} (x : Itr k h c b i) (e : Heap.ExtBut d h h') (n : c ≠ d) : Itr k h' c b i := by
  cases k
  · exact Heap.IsListIter.extBut x e n
  · exact Heap.IsTupleIter.extBut x e n
theorem Seq'.far {h h' : Heap} {b d : Addr} {xs : Array Value} (x : Seq' k h b xs) (e : Heap.ExtBut d h h') (n : b ≠ d) : Seq' k h' b xs := by
  cases k
  · exact Heap.IsList.extBut x e n
  · exact Heap.IsTuple.extBut x e n
theorem Itr.moved {h h' : Heap} {c b : Addr} {i : Nat} (x : Itr k h c b i) (e : ∀ o, h.get? c = some o → h'.get? c = some o) : Itr k h' c b i := by
  cases k
  · exact Heap.IsListIter.at x e
  · exact Heap.IsTupleIter.at x e
theorem Itr.obj {h : Heap} {c b : Addr} {i : Nat} (x : Itr k h c b i) : ∃ o, h.get? c = some o ∧ ∃ fs, o.data = .fields fs := by
  cases k
  · obtain ⟨o, e, _, d⟩ := x; exact ⟨o, e, _, d⟩
  · obtain ⟨o, e, _, d⟩ := x; exact ⟨o, e, _, d⟩
section
variable {prog : Program} {w : World} {A : Around} {E : Value → Shared → Prop} {s : Shared} {Q : Value → Shared → Prop}
theorem nx_item {c b : Addr} {i : Nat} {xs : Array Value} {x : Value} (hit : Itr k s.heap c b i) (hl : Seq' k s.heap b xs) (hx : xs[i]? = some x)
    (hQ : ∀ h', Itr k h' c b (i + 1) → Heap.SameBut c s.heap h' → Q x { s with heap := h' }) : wpAny (model prog w) A (Builtin.SmallTypes.nextOf (.ref c)) Q E s := by
  cases k
  · exact wpAny_nextOf_list_item hit hl hx hQ
  · exact RZ.nextOf_tuple_item hit hl hx hQ
theorem nx_end {c b : Addr} {i : Nat} {xs : Array Value} (hh : A.handled = none) (hit : Itr k s.heap c b i) (hl : Seq' k s.heap b xs) (hx : xs[i]? = none)
    (hE : ∀ h' e, Heap.ExtBut c s.heap h' → (∃ o, h'.get? e = some o ∧ o.cls = .type "StopIteration") → E (.ref e) { s with heap := h' }) : wpAny (model prog w) A (Builtin.SmallTypes.nextOf (.ref c)) Q E s := by
  cases k
  · exact wpAny_nextOf_list_end hh hit hl hx hE
  · exact RZ.nextOf_tuple_end hh hit hl hx hE
/-- what a turn leaves: the pair made anew stands at the heap's end -/
structure Left (h0 h' : Heap) (z TI TO c1 c2 b1 b2 : Addr) (kx ky : Kd) (i j : Nat) (x y : Value) : Prop where
  hz : IsZip h' z TI TO (rawInt h0.objs.size)
  hTO : IsPair h' TO x y
  h1 : Itr kx h' c1 b1 (i + 1)
  h2 : Itr ky h' c2 b2 (j + 1)
  new : IsPair h' h0.objs.size x y
  kept : ∀ c o, c ≠ z → c ≠ TO → c ≠ c1 → c ≠ c2 → h0.get? c = some o → h'.get? c = some o
theorem step_item {z TI TO c1 c2 b1 b2 : Addr} {i j : Nat} {xs ys : Array Value} {x y p q : Value} (D : ZipApart z TI TO c1 c2 b1 b2)
    (hz : IsZip s.heap z TI TO .none) (hTI : IsPair s.heap TI (.ref c1) (.ref c2)) (hTO : IsPair s.heap TO p q)
    (h1 : Itr kx s.heap c1 b1 i) (h2 : Itr ky s.heap c2 b2 j) (s1 : Seq' kx s.heap b1 xs) (s2 : Seq' ky s.heap b2 ys) (hx : xs[i]? = some x) (hy : ys[j]? = some y)
    (hQ : ∀ h', Left s.heap h' z TI TO c1 c2 b1 b2 kx ky i j x y → Q (.ref s.heap.objs.size) { s with heap := h' }) :
    wpAny (model prog w) A (Builtin.«zip.__next__» ⟨[.ref z], []⟩) (fun fin s' => ∃ v, fin = .done (.ret v) ∧ Q v s') E s := by
  show wpAny _ _ (field (.ref z) 2 >>= _) _ _ _
  apply wpAny_bind; apply wpAny_field hz rfl (x := .bool false) rfl
  show wpAny _ _ (field (.ref z) 3 >>= _) _ _ _
  apply wpAny_bind; apply wpAny_field hz rfl (x := .ref TI) rfl
  apply wpAny_bind; apply wpAny_seqItems hTI rfl
  show wpAny _ _ (Builtin.SmallTypes.ownedTupleIsFree (.ref z) >>= _) _ _ _
  apply wpAny_bind
  unfold Builtin.SmallTypes.ownedTupleIsFree
  apply wpAny_bind; apply wpAny_field hz rfl (x := .none) rfl; apply wpAny_pure
  simp only [if_true]
  apply wpAny_bind; apply wpAny_rule
  apply wpAny_bind; apply wpAny_field hz rfl (x := .ref TO) rfl
  apply wpAny_bind; refine wpAny_setField_rec hz (by simp) fun ha za ea => ?_
  have za' : IsZip ha z TI TO .ellipsis := za
  apply wpAny_bind
  simp only [List.zipIdx_cons, List.zipIdx_nil, List.forIn_cons, List.forIn_nil]
  apply wpAny_bind; apply wpAny_bind; apply wpAny_onRaise
  show wpAny _ _ (Builtin.SmallTypes.nextOf (.ref c1) >>= _) _ _ _
  apply wpAny_bind
  refine nx_item (h1.far ea.extBut D.i1z) (s1.far ea.extBut D.l1z) hx fun hb ib eb => wpAny_pure ?_
  have tb : IsPair hb TO p q := eb.extBut _ _ D.TOi1 (ea.extBut _ _ D.TOz hTO)
  apply wpAny_bind; apply wpAny_seqItems tb rfl
  apply wpAny_bind; refine wpAny_updateSeq_pair tb fun hc tc ec => ?_
  have tc' : IsPair hc TO x q := tc
  apply wpAny_bind; apply wpAny_letGo; apply wpAny_pure
  apply wpAny_bind; apply wpAny_bind; apply wpAny_onRaise
  show wpAny _ _ (Builtin.SmallTypes.nextOf (.ref c2) >>= _) _ _ _
  apply wpAny_bind
  refine nx_item (((h2.far ea.extBut D.i2z).far eb.extBut D.i12.symm).far ec.extBut D.TOi2.symm) (((s2.far ea.extBut D.l2z).far eb.extBut D.l2i1).far ec.extBut D.l2TO) hy fun hd id ed => wpAny_pure ?_
  have td : IsPair hd TO x q := ed.extBut _ _ D.TOi2 tc'
  apply wpAny_bind; apply wpAny_seqItems td rfl
  apply wpAny_bind; refine wpAny_updateSeq_pair td fun hf tf ef => ?_
  have tf' : IsPair hf TO x y := tf
  apply wpAny_bind; apply wpAny_letGo; apply wpAny_pure; apply wpAny_pure
  apply wpAny_bind; apply wpAny_seqItems tf' rfl
  apply wpAny_bind; refine wpAny_newTuple ?_
  have sz : hf.objs.size = s.heap.objs.size := by rw [ef.1, ed.1, ec.1, eb.1, ea.1]
  have zf : IsZip hf z TI TO .ellipsis := ef.extBut _ _ D.TOz.symm (ed.extBut _ _ D.i2z.symm (ec.extBut _ _ D.TOz.symm (eb.extBut _ _ D.i1z.symm za')))
  have kf : ∀ c o, c ≠ z → c ≠ TO → c ≠ c1 → c ≠ c2 → s.heap.get? c = some o → hf.get? c = some o := fun c o n1 n2 n3 n4 e =>
    ef.extBut _ _ n2 (ed.extBut _ _ n4 (ec.extBut _ _ n2 (eb.extBut _ _ n3 (ea.extBut _ _ n1 e))))
  have f1 : Itr kx hf c1 b1 (i + 1) := ((ib.far ec.extBut D.TOi1.symm).far ed.extBut D.i12).far ef.extBut D.TOi1.symm
  have f2 : Itr ky hf c2 b2 (j + 1) := id.far ef.extBut D.TOi2.symm
  have zlt : z < hf.objs.size := Heap.lt_size zf
  show wpAny _ _ (Builtin.SmallTypes.ownedTupleHandOut (.ref z) (.ref hf.objs.size) >>= _) _ _ _
  apply wpAny_bind
  unfold Builtin.SmallTypes.ownedTupleHandOut
  have zg : IsZip (hf.push { cls := .type "tuple", data := .seq #[x, y] }) z TI TO .ellipsis := Heap.get?_push_of_some _ zf
  apply wpAny_bind; refine wpAny_setField_rec zg (by simp) fun hg zg2 eg => ?_
  have zg3 : IsZip hg z TI TO (rawInt hf.objs.size) := zg2
  refine wpAny_setField_rec zg3 (by simp) fun hi zi ei => ?_
  have zi' : IsZip hi z TI TO (rawInt hf.objs.size) := zi
  have up : ∀ c o, c ≠ z → hf.get? c = some o → hi.get? c = some o := fun c o n e => ei.extBut _ _ n (eg.extBut _ _ n (Heap.get?_push_of_some _ e))
  have nw : IsPair hi hf.objs.size x y := ei.extBut _ _ (Nat.ne_of_gt zlt) (eg.extBut _ _ (Nat.ne_of_gt zlt) (Heap.get?_push_size _ rfl))
  rw [sz] at zi' nw
  refine wpAny_pure ⟨_, rfl, ?_⟩
  show Q (.ref hf.objs.size) _
  rw [sz]
  exact hQ hi ⟨zi', up _ _ D.TOz tf', f1.moved fun o e => up _ o D.i1z e, f2.moved fun o e => up _ o D.i2z e, nw, fun c o n1 n2 n3 n4 e => up c o n1 (kf c o n1 n2 n3 n4 e)⟩
theorem step_end {R : Fin → Shared → Prop} {z TI TO c1 c2 b1 b2 : Addr} {i j : Nat} {xs ys : Array Value} {p q : Value} (hh : A.handled = none) (D : ZipApart z TI TO c1 c2 b1 b2)
    (hz : IsZip s.heap z TI TO .none) (hTI : IsPair s.heap TI (.ref c1) (.ref c2)) (hTO : IsPair s.heap TO p q)
    (h1 : Itr kx s.heap c1 b1 i) (h2 : Itr ky s.heap c2 b2 j) (s1 : Seq' kx s.heap b1 xs) (s2 : Seq' ky s.heap b2 ys) (he : xs[i]? = none ∨ ys[j]? = none)
    (hE : ∀ h' e, (∀ c o, c ≠ z → c ≠ TO → c ≠ c1 → c ≠ c2 → s.heap.get? c = some o → h'.get? c = some o) → (∃ o, h'.get? e = some o ∧ o.cls = .type "StopIteration") → E (.ref e) { s with heap := h' }) :
    wpAny (model prog w) A (Builtin.«zip.__next__» ⟨[.ref z], []⟩) R E s := by
  show wpAny _ _ (field (.ref z) 2 >>= _) _ _ _
  apply wpAny_bind; apply wpAny_field hz rfl (x := .bool false) rfl
  show wpAny _ _ (field (.ref z) 3 >>= _) _ _ _
  apply wpAny_bind; apply wpAny_field hz rfl (x := .ref TI) rfl
  apply wpAny_bind; apply wpAny_seqItems hTI rfl
  show wpAny _ _ (Builtin.SmallTypes.ownedTupleIsFree (.ref z) >>= _) _ _ _
  apply wpAny_bind
  unfold Builtin.SmallTypes.ownedTupleIsFree
  apply wpAny_bind; apply wpAny_field hz rfl (x := .none) rfl; apply wpAny_pure
  simp only [if_true]
  apply wpAny_bind; apply wpAny_rule
  apply wpAny_bind; apply wpAny_field hz rfl (x := .ref TO) rfl
  apply wpAny_bind; refine wpAny_setField_rec hz (by simp) fun ha za ea => ?_
  have za' : IsZip ha z TI TO .ellipsis := za
  apply wpAny_bind
  simp only [List.zipIdx_cons, List.zipIdx_nil, List.forIn_cons, List.forIn_nil]
  apply wpAny_bind; apply wpAny_bind; apply wpAny_onRaise
  show wpAny _ _ (Builtin.SmallTypes.nextOf (.ref c1) >>= _) _ _ _
  cases hx : xs[i]? with
  | none =>
    apply wpAny_bind
    refine nx_end hh (h1.far ea.extBut D.i1z) (s1.far ea.extBut D.l1z) hx fun hb e eb he => ?_
    obtain ⟨oe, g1, g2⟩ := he
    have zb : IsZip hb z TI TO .ellipsis := eb _ _ D.i1z.symm za'
    have nz : e ≠ z := fun r => by subst r; rw [zb] at g1; cases g1; simp at g2
    refine wpAny_setField_rec zb (by simp) fun hc _ ec => hE hc e (fun c o n1 _ n3 _ r => ec.extBut _ _ n1 (eb _ _ n3 (ea.extBut _ _ n1 r))) ⟨oe, ec.extBut _ _ nz g1, g2⟩
  | some x =>
    have hy : ys[j]? = none := he.resolve_left (by rw [hx]; simp)
    apply wpAny_bind
    refine nx_item (h1.far ea.extBut D.i1z) (s1.far ea.extBut D.l1z) hx fun hb ib eb => wpAny_pure ?_
    have tb : IsPair hb TO p q := eb.extBut _ _ D.TOi1 (ea.extBut _ _ D.TOz hTO)
    apply wpAny_bind; apply wpAny_seqItems tb rfl
    apply wpAny_bind; refine wpAny_updateSeq_pair tb fun hc tc ec => ?_
    apply wpAny_bind; apply wpAny_letGo; apply wpAny_pure
    apply wpAny_bind; apply wpAny_bind; apply wpAny_onRaise
    show wpAny _ _ (Builtin.SmallTypes.nextOf (.ref c2) >>= _) _ _ _
    apply wpAny_bind
    refine nx_end hh (((h2.far ea.extBut D.i2z).far eb.extBut D.i12.symm).far ec.extBut D.TOi2.symm) (((s2.far ea.extBut D.l2z).far eb.extBut D.l2i1).far ec.extBut D.l2TO) hy fun hd e ed he => ?_
    obtain ⟨oe, g1, g2⟩ := he
    have zd : IsZip hd z TI TO .ellipsis := ed _ _ D.i2z.symm (ec.extBut _ _ D.TOz.symm (eb.extBut _ _ D.i1z.symm za'))
    have nz : e ≠ z := fun r => by subst r; rw [zd] at g1; cases g1; simp at g2
    refine wpAny_setField_rec zd (by simp) fun hf _ ef => hE hf e (fun c o n1 n2 n3 n4 r => ef.extBut _ _ n1 (ed _ _ n4 (ec.extBut _ _ n2 (eb.extBut _ _ n3 (ea.extBut _ _ n1 r))))) ⟨oe, ef.extBut _ _ nz g1, g2⟩
theorem py_item {R : Option Value → Shared → Prop} {z TI TO c1 c2 b1 b2 : Addr} {i j : Nat} {xs ys : Array Value} {x y p q : Value} (D : ZipApart z TI TO c1 c2 b1 b2)
    (hz : IsZip s.heap z TI TO .none) (hTI : IsPair s.heap TI (.ref c1) (.ref c2)) (hTO : IsPair s.heap TO p q)
    (h1 : Itr kx s.heap c1 b1 i) (h2 : Itr ky s.heap c2 b2 j) (s1 : Seq' kx s.heap b1 xs) (s2 : Seq' ky s.heap b2 ys) (hx : xs[i]? = some x) (hy : ys[j]? = some y)
    (hQ : ∀ h', Left s.heap h' z TI TO c1 c2 b1 b2 kx ky i j x y → R (some (.ref s.heap.objs.size)) { s with heap := h' }) : wpAny (model prog w) A (pyNext (.ref z)) R E s := by
  have ty : s.TypeIs (.ref z) "zip" := ⟨_, hz, rfl⟩
  unfold pyNext
  apply wpAny_bind; apply wpAny_attempt
  exact wpAny_callSpecial?_slot (name := Str.ofString "__next__") ty F.slot_zip_next (wpAny_call_entry F.slot_zip_next ty F.entry_zip_next (step_item D hz hTI hTO h1 h2 s1 s2 hx hy fun h' l => wpAny_pure (hQ h' l)) (F.args_zip_next_1 _))
theorem py_end {R : Option Value → Shared → Prop} {z TI TO c1 c2 b1 b2 : Addr} {i j : Nat} {xs ys : Array Value} {p q : Value} (hh : A.handled = none) (D : ZipApart z TI TO c1 c2 b1 b2)
    (hz : IsZip s.heap z TI TO .none) (hTI : IsPair s.heap TI (.ref c1) (.ref c2)) (hTO : IsPair s.heap TO p q)
    (h1 : Itr kx s.heap c1 b1 i) (h2 : Itr ky s.heap c2 b2 j) (s1 : Seq' kx s.heap b1 xs) (s2 : Seq' ky s.heap b2 ys) (he : xs[i]? = none ∨ ys[j]? = none)
    (hQ : ∀ h', (∀ c o, c ≠ z → c ≠ TO → c ≠ c1 → c ≠ c2 → s.heap.get? c = some o → h'.get? c = some o) → R none { s with heap := h' }) : wpAny (model prog w) A (pyNext (.ref z)) R E s := by
  have ty : s.TypeIs (.ref z) "zip" := ⟨_, hz, rfl⟩
  unfold pyNext
  apply wpAny_bind; apply wpAny_attempt
  refine wpAny_callSpecial?_slot (name := Str.ofString "__next__") ty F.slot_zip_next (wpAny_call_entry F.slot_zip_next ty F.entry_zip_next (step_end hh D hz hTI hTO h1 h2 s1 s2 he fun h' e kp ⟨o, g1, g2⟩ => ?_) (F.args_zip_next_1 _))
  apply wpAny_bind
  exact wpAny_isInstance (T := "StopIteration") (b := true) ⟨o, g1, g2⟩ isSubtype_stop (wpAny_pure (hQ _ kp))
end
/-! zip(list, tuple), zip(tuple, list) made -/
def itObj (k : Kd) (b : Addr) : Obj := match k with
  | .l => { cls := .type "list_iterator", data := .fields #[.ref b, .int 0 0] }
  | .t => { cls := .type "tuple_iterator", data := .fields #[.ref b, .int 0 0] }
def hp1 (k : Kd) (h : Heap) (b : Addr) : Heap := h.push (itObj k b)
def hp2 (kx ky : Kd) (h : Heap) (b c : Addr) : Heap := (hp1 kx h b).push (itObj ky c)
def hp3 (kx ky : Kd) (h : Heap) (b c : Addr) : Heap := (hp2 kx ky h b c).push { cls := .type "tuple", data := .seq #[.ref h.objs.size, .ref (hp1 kx h b).objs.size] }
def hp4 (kx ky : Kd) (h : Heap) (b c : Addr) : Heap := (hp3 kx ky h b c).push { cls := .type "tuple", data := .seq #[.none, .none] }
def hp5 (kx ky : Kd) (h : Heap) (b c : Addr) : Heap := (hp4 kx ky h b c).push { cls := .type "zip", data := .fields #[.none, .bool false, .bool false, .ref (hp2 kx ky h b c).objs.size, .ref (hp3 kx ky h b c).objs.size] }
theorem made_lt (b c : Addr) (xs ys : Array Value) : Meets (Builtin.«zip.__new__» ⟨[.type "zip", .ref b, .ref c], []⟩) (fun _ R s => s.heap.IsList b xs ∧ s.heap.IsTuple c ys ∧ R (.ok (.ret (.ref (hp4 .l .t s.heap b c).objs.size))) { s with heap := hp5 .l .t s.heap b c }) :=
  .of_wp fun prog w A R s h => by
    obtain ⟨hp, g, d, tk, os⟩ := s; obtain ⟨m1, m2, h⟩ := h
    have hsub := sub_zip
    have n1 : Heap.IsList (Shared.heap ⟨hp, g, d, tk, os⟩) b xs := m1
    have n2 : Heap.IsTuple (Shared.heap ⟨hp.push { cls := .type "list_iterator", data := .fields #[.ref b, .int 0 0] }, g, d, tk, os⟩) c ys := Heap.IsTuple.push m2 _
    wp_walk using wpAny_pyIter_list n1, wpAny_pyIter_tuple n2
    exact ⟨_, rfl, h⟩
theorem made_tl (b c : Addr) (xs ys : Array Value) : Meets (Builtin.«zip.__new__» ⟨[.type "zip", .ref b, .ref c], []⟩) (fun _ R s => s.heap.IsTuple b xs ∧ s.heap.IsList c ys ∧ R (.ok (.ret (.ref (hp4 .t .l s.heap b c).objs.size))) { s with heap := hp5 .t .l s.heap b c }) :=
  .of_wp fun prog w A R s h => by
    obtain ⟨hp, g, d, tk, os⟩ := s; obtain ⟨m1, m2, h⟩ := h
    have hsub := sub_zip
    have n1 : Heap.IsTuple (Shared.heap ⟨hp, g, d, tk, os⟩) b xs := m1
    have n2 : Heap.IsList (Shared.heap ⟨hp.push { cls := .type "tuple_iterator", data := .fields #[.ref b, .int 0 0] }, g, d, tk, os⟩) c ys := Heap.IsList.push m2 _
    wp_walk using wpAny_pyIter_tuple n1, wpAny_pyIter_list n2
    exact ⟨_, rfl, h⟩
/-- which kinds -/
def Mix (kx ky : Kd) : Prop := (kx = .l ∧ ky = .t) ∨ (kx = .t ∧ ky = .l)
section
variable {prog : Program} {w : World} {A : Around} {E : Value → Shared → Prop} {s : Shared} {Q : Value → Shared → Prop}
theorem made {b c : Addr} {xs ys : Array Value} (hm : Mix kx ky) (m1 : Seq' kx s.heap b xs) (m2 : Seq' ky s.heap c ys)
    (h : ∀ h', IsZip h' (s.heap.objs.size + 4) (s.heap.objs.size + 2) (s.heap.objs.size + 3) .none → IsPair h' (s.heap.objs.size + 2) (.ref s.heap.objs.size) (.ref (s.heap.objs.size + 1)) →
      IsPair h' (s.heap.objs.size + 3) .none .none → Itr kx h' s.heap.objs.size b 0 → Itr ky h' (s.heap.objs.size + 1) c 0 → (∀ c o, s.heap.get? c = some o → h'.get? c = some o) → Q (.ref (s.heap.objs.size + 4)) { s with heap := h' }) :
    wpAny (model prog w) A (call (.type "zip") [.ref b, .ref c]) Q E s := by
  have y1 : (hp1 kx s.heap b).objs.size = s.heap.objs.size + 1 := Heap.size_push ..
  have y2 : (hp2 kx ky s.heap b c).objs.size = s.heap.objs.size + 2 := (Heap.size_push ..).trans (by rw [y1])
  have y3 : (hp3 kx ky s.heap b c).objs.size = s.heap.objs.size + 3 := (Heap.size_push ..).trans (by rw [y2])
  have y4 : (hp4 kx ky s.heap b c).objs.size = s.heap.objs.size + 4 := (Heap.size_push ..).trans (by rw [y3])
  have fr : ∀ k b, (itObj k b).isFreed = false := fun k b => by cases k <;> rfl
  have u5 : (hp5 kx ky s.heap b c).get? (hp4 kx ky s.heap b c).objs.size = some _ := Heap.get?_push_size _ rfl
  have u4 : (hp5 kx ky s.heap b c).get? (hp3 kx ky s.heap b c).objs.size = some _ := Heap.get?_push_of_some _ (Heap.get?_push_size _ rfl)
  have u3 : (hp5 kx ky s.heap b c).get? (hp2 kx ky s.heap b c).objs.size = some _ := Heap.get?_push_of_some _ (Heap.get?_push_of_some _ (Heap.get?_push_size _ rfl))
  have u2 : (hp5 kx ky s.heap b c).get? (hp1 kx s.heap b).objs.size = some (itObj ky c) := Heap.get?_push_of_some _ (Heap.get?_push_of_some _ (Heap.get?_push_of_some _ (Heap.get?_push_size _ (fr _ _))))
  have u1 : (hp5 kx ky s.heap b c).get? s.heap.objs.size = some (itObj kx b) := Heap.get?_push_of_some _ (Heap.get?_push_of_some _ (Heap.get?_push_of_some _ (Heap.get?_push_of_some _ (Heap.get?_push_size _ (fr _ _)))))
  have kp : ∀ c' o, s.heap.get? c' = some o → (hp5 kx ky s.heap b c).get? c' = some o := fun c' o x =>
    Heap.get?_push_of_some _ (Heap.get?_push_of_some _ (Heap.get?_push_of_some _ (Heap.get?_push_of_some _ (Heap.get?_push_of_some _ x))))
  have fin : Q (.ref (hp4 kx ky s.heap b c).objs.size) { s with heap := hp5 kx ky s.heap b c } := by
    rw [y2, y3, y4] at u5
    rw [y1, y2] at u3
    rw [y3] at u4
    rw [y1] at u2
    rw [y4]
    refine h _ u5 u3 u4 ?_ ?_ kp
    · cases kx
      · exact ⟨_, u1, rfl, rfl⟩
      · exact ⟨_, u1, rfl, rfl⟩
    · cases ky
      · exact ⟨_, u2, rfl, rfl⟩
      · exact ⟨_, u2, rfl, rfl⟩
  rcases hm with ⟨rfl, rfl⟩ | ⟨rfl, rfl⟩
  · exact callType_new F.called_zip (by decide) (F.typeCall_zip_2 _ _) (F.newCall_zip_2 _ _) (fun obj => F.args_object_init_3 obj _ _) F.entry_zip_new (made_lt b c xs ys) ⟨m1, m2, ⟨_, u5, rfl⟩, fin⟩
  · exact callType_new F.called_zip (by decide) (F.typeCall_zip_2 _ _) (F.newCall_zip_2 _ _) (fun obj => F.args_object_init_3 obj _ _) F.entry_zip_new (made_tl b c xs ys) ⟨m1, m2, ⟨_, u5, rfl⟩, fin⟩
end
/-! what the layer walks -/
def SqK (k : Kd) (K : PySem.W.Frag) (H : Hp) (a : Addr) (xs : List V) : Prop := match k with
  | .l => SqL K H a xs
  | .t => SqT K H a xs
theorem sq_at {X : Cx} {pins : List (Addr × Obj)} {σ : L2.St} {H : Hp} {s : Shared} {a : Addr} {xs : List V} (I : Inv X pins σ H s) (h : SqK k X.K H a xs) : ∃ its : List Value, Vals xs its ∧ Seq' k s.heap a its.toArray ∧ a < s.heap.objs.size := by
  cases k
  · obtain ⟨its, rv, p, _⟩ := I.list h
    exact ⟨its, rv, p.isList, p.lt⟩
  · obtain ⟨its, rv, p, _⟩ := I.tuple h
    obtain ⟨o, ho, _⟩ := id p
    exact ⟨its, rv, p, Heap.lt_size ho⟩
theorem sq_inj {X : Cx} {pins : List (Addr × Obj)} {σ : L2.St} {H : Hp} {s : Shared} {a : Addr} {xs ys : List V} (I : Inv X pins σ H s) (h : SqK k X.K H a xs) (h' : SqK k X.K H a ys) : xs = ys := by
  cases k
  · exact I.list_inj h h'
  · exact I.tuple_inj h h'
def Itx (kx ky : Kd) (K : PySem.W.Frag) (a b : Addr) : L2.It where
  go i H := ∃ (xs ys : List V) (x y : V), SqK kx K H a xs ∧ SqK ky K H b ys ∧ xs[i]? = some x ∧ ys[i]? = some y
  yld i H v H' := ∃ T x y, v = .ref T ∧ H T = none ∧ H' = upd H T (.tup [x, y]) ∧ (∀ xs, SqK kx K H a xs → xs[i]? = some x) ∧ ∀ ys, SqK ky K H b ys → ys[i]? = some y
  stop i H := ∃ xs ys : List V, SqK kx K H a xs ∧ SqK ky K H b ys ∧ (xs.length ≤ i ∨ ys.length ≤ i)
theorem turn_x {P : Program} {w : World} {K : PySem.W.Frag} {elts : List Expr} {kk : Nat} {tpos : Pos} {a b z TI TO c1 c2 : Addr} (D : ZipApart z TI TO c1 c2 a b) :
    Turn P w K (.Tuple elts kk tpos) (Itx kx ky K a b) [z, TI, TO, c1, c2] z (fun i h => IsZip h z TI TO .none ∧ IsPair h TI (.ref c1) (.ref c2) ∧ (∃ x y, IsPair h TO x y) ∧ Itr kx h c1 a i ∧ Itr ky h c2 b i) where
  mem := by simp
  obj := fun i h st c hc => by
    obtain ⟨hz, hTI, ⟨x, y, hTO⟩, h1, h2⟩ := st
    obtain ⟨o1, e1, _, d1⟩ := h1.obj
    obtain ⟨o2, e2, _, d2⟩ := h2.obj
    simp only [List.mem_cons, List.not_mem_nil, or_false] at hc
    rcases hc with rfl | rfl | rfl | rfl | rfl
    · exact ⟨_, hz, fun v q => nomatch q⟩
    · exact ⟨_, hTI, fun v q => nomatch q⟩
    · exact ⟨_, hTO, fun v q => nomatch q⟩
    · exact ⟨o1, e1, fun v q => by rw [d1] at q; cases q⟩
    · exact ⟨o2, e2, fun v q => by rw [d2] at q; cases q⟩
  keep := fun i h h' st kp => by
    obtain ⟨hz, hTI, ⟨x, y, hTO⟩, h1, h2⟩ := st
    refine ⟨kp z (by simp) _ hz, kp TI (by simp) _ hTI, ⟨x, y, kp TO (by simp) _ hTO⟩, ?_, ?_⟩
    · exact h1.moved fun o => kp c1 (by simp) o
    · exact h2.moved fun o => kp c2 (by simp) o
  item := by
    intro X hP hw hK hc i pins s σ H E I hf st hg
    subst hP hw hK
    obtain ⟨hz, hTI, ⟨x0, y0, hTO⟩, h1, h2⟩ := st
    obtain ⟨xs, ys, x, y, qx, qy, hx, hy⟩ := hg
    obtain ⟨us, rv, p1, _⟩ := sq_at I qx
    obtain ⟨vs, rv2, p2, _⟩ := sq_at I qy
    obtain ⟨u, hu, ru⟩ := rv.get hx
    obtain ⟨v, hv, rw2⟩ := rv2.get hy
    have zl : z < s.heap.objs.size := Heap.lt_size hz
    have ex : ∀ c, c ∈ [z, TI, TO, c1, c2] → c < s.heap.objs.size := fun c hcm => by
      obtain ⟨o1, e1, _⟩ := h1.obj
      obtain ⟨o2, e2, _⟩ := h2.obj
      simp only [List.mem_cons, List.not_mem_nil, or_false] at hcm
      rcases hcm with rfl | rfl | rfl | rfl | rfl
      · exact zl
      · exact Heap.lt_size hTI
      · exact Heap.lt_size hTO
      · exact Heap.lt_size e1
      · exact Heap.lt_size e2
    refine py_item D hz hTI hTO h1 h2 p1 p2 (x := u) (y := v) (by simpa using hu) (by simpa using hv) fun h' L => ⟨_, rfl, ?_⟩
    refine wpAny_letOwnedTupleGo_zip (s := { s with heap := h' }) L.hz fun h2' z2 sb => ?_
    have pr : h2'.get? s.heap.objs.size = some { cls := .type "tuple", data := .seq #[u, v] } := (sb.2 _ (Nat.ne_of_gt zl)).trans L.new
    have nw : ObjOk X.prog X.w (upd H s.heap.objs.size (.tup [x, y])) h2' s.heap.objs.size (.tup [x, y]) := ⟨by show 2 ≤ sizeLine; decide, [u, v], .cons ru (.cons rw2 .nil), _, pr, rfl, _, rfl⟩
    have I1 : Inv X pins σ (upd H s.heap.objs.size (.tup [x, y])) { s with heap := h2' } :=
      I.turnedNew (t' := s.toks) (ch := [z, TI, TO, c1, c2]) (fun c o hb q => by
        simp only [List.mem_cons, List.not_mem_nil, or_false, not_or] at hb
        exact (sb.2 c hb.1).trans (L.kept c o hb.1 hb.2.2.1 hb.2.2.2.1 hb.2.2.2.2 q)) hf (Nat.le_refl _) nw
    refine ⟨.ref s.heap.objs.size, _, I1, rfl, ⟨_, x, y, rfl, I.hok.fresh (Nat.le_refl _), rfl, fun l hl => by rw [sq_inj I hl qx]; exact hx, fun l hl => by rw [sq_inj I hl qy]; exact hy⟩, ⟨z2, ?_, ⟨u, v, ?_⟩, ?_, ?_⟩, fun c hcm => ?_⟩
    · exact (sb.2 _ D.TIz).trans (L.kept _ _ D.TIz D.TITO D.TIi1 D.TIi2 hTI)
    · exact (sb.2 _ D.TOz).trans L.hTO
    · exact L.h1.moved fun o q => (sb.2 _ D.i1z).trans q
    · exact L.h2.moved fun o q => (sb.2 _ D.i2z).trans q
    · rw [upd_ne (Nat.ne_of_lt (ex c hcm))]
      exact (hf c hcm).1
  done := by
    intro X hP hw hK hc i pins s σ H E I hf st hg
    subst hP hw hK
    obtain ⟨hz, hTI, ⟨x0, y0, hTO⟩, h1, h2⟩ := st
    obtain ⟨xs, ys, qx, qy, he⟩ := hg
    obtain ⟨us, rv, p1, _⟩ := sq_at I qx
    obtain ⟨vs, rv2, p2, _⟩ := sq_at I qy
    have l1 := rv.length
    have l2 := rv2.length
    have hn : us.toArray[i]? = none ∨ vs.toArray[i]? = none := he.imp (fun q => by simp; omega) fun q => by simp; omega
    refine py_end (I.ok.hd hc) D hz hTI hTO h1 h2 p1 p2 hn fun h' kp => ⟨rfl, I.turnedL (t' := s.toks) (ch := [z, TI, TO, c1, c2]) (fun c o hb q => ?_) hf⟩
    simp only [List.mem_cons, List.not_mem_nil, or_false, not_or] at hb
    exact kp c o hb.1 hb.2.2.1 hb.2.2.2.1 hb.2.2.2.2 q
  self := fun A i s Q E st h => wpAny_pyIter_zip st.1 h
def iX (K : PySem.W.Frag) (ta : TA) : TI := fun σ H R => ta σ H fun vs H1 => ∃ kx ky a b xs ys, vs = [.ref a, .ref b] ∧ Mix kx ky ∧ SqK kx K H1 a xs ∧ SqK ky K H1 b ys ∧ R (Itx kx ky K a b) H1
theorem pi_x {X : Cx} {e e2 : Expr} {ta : TA} {p pos tpos : Pos} {elts : List Expr} {kk : Nat} (hg : Gl X "zip") (hm : X.mg "zip" = none) (ha : PA X [e, e2] ta)
    (hs : starEach [e, e2] X.env = (false, eval e X.env) :: starEach [e2] X.env) (hpl : (backTo pos (starEach [e2] X.env)).any (·.1) = false) :
    PI X (.Tuple elts kk tpos) (.Call (.Name "zip" p) [e, e2] [] pos) (iX X.K ta) := by
  refine ⟨fun pins s σ H R I h => ?_⟩
  refine Call_ (ld_blt I hg hm PyProof.Rows.boot_zip (PyProof.Rows.callWith_type1 (thn (ha.run pos pins s σ H _ I h) fun us s1 ⟨vs, H1, I1, r1, q1⟩ => ?_) hs hpl))
  obtain ⟨kx, ky, a, b, xs, ys, rfl, mx, qx, qy, q⟩ := q1
  cases r1 with
  | cons r rr => cases rr with
    | cons r' rr =>
      cases rr; cases r; cases r'
      obtain ⟨_, _, p1, l1⟩ := sq_at I1 qx
      obtain ⟨_, _, p2, l2⟩ := sq_at I1 qy
      have five : ∀ c, c ∈ [s1.heap.objs.size + 4, s1.heap.objs.size + 2, s1.heap.objs.size + 3, s1.heap.objs.size, s1.heap.objs.size + 1] → FpOk X pins H1 c := fun c hcm => by
        have hle : s1.heap.objs.size ≤ c := by
          simp only [List.mem_cons, List.not_mem_nil, or_false] at hcm
          omega
        exact I1.fpOk hle (I1.hok.fresh hle)
      refine made mx p1 p2 fun h' hz hTI hTO h1 h2 kp => wpAny_pyIter_zip hz ?_
      exact ⟨_, _, _, _, H1, rfl, I1.kept (t' := s1.toks) kp, turn_x (PySem.W.ktu_apart s1.heap.objs.size a b l1 l2), ⟨hz, hTI, ⟨_, _, hTO⟩, h1, h2⟩, five, q⟩
end ZX
namespace DL
open PySem

/-! ## data -/
inductive D where
  | non | bl (b : Bool) | int (i : Int) | str (s : Str)
  | tup (xs : List D) | lst (xs : List D) | dic (kvs : List (D × D))
  | fn (x : Str) | ty (n : String) | rol (xs : List D)
deriving Inhabited

mutual
def D.py : D → PyData
  | .non => .none
  | .bl b => .bool b
  | .int i => .int i
  | .str s => .str s
  | .tup xs => .tuple (D.pys xs)
  | .lst xs => .list (D.pys xs)
  | .dic _ => .none
  | .fn _ => .none
  | .ty _ => .none
  | .rol _ => .none
def D.pys : List D → List PyData
  | [] => []
  | d :: r => d.py :: D.pys r
end
mutual
/-- no dict, no def, no class in it -/
def D.pure : D → Bool
  | .tup xs => D.pures xs
  | .lst xs => D.pures xs
  | .dic _ => false
  | .fn _ => false
  | .ty _ => false
  | .rol _ => false
  | _ => true
def D.pures : List D → Bool
  | [] => true
  | d :: r => d.pure && D.pures r
end
theorem D.pys_map : ∀ xs : List D, D.pys xs = xs.map D.py
  | [] => rfl
  | x :: xs => by rw [D.pys, D.pys_map xs, List.map_cons]

/-! ## results -/
inductive R (ε α : Type) where
  | ok (a : α) | exc (c : Str) (x : D) (e : ε) | bad
namespace R
variable {ε α β : Type}
def bind (r : R ε α) (f : α → R ε β) : R ε β := match r with
  | .ok a => f a
  | .exc c x e => .exc c x e
  | .bad => .bad
def map (f : α → β) (r : R ε α) : R ε β := match r with
  | .ok a => .ok (f a)
  | .exc c x e => .exc c x e
  | .bad => .bad
def ofO (o : Option α) : R ε α := match o with
  | some a => .ok a
  | none => .bad
@[simp] theorem bind_ok (a : α) (f : α → R ε β) : (R.ok a : R ε α).bind f = f a := rfl
@[simp] theorem bind_exc (c x) (e : ε) (f : α → R ε β) : (R.exc c x e : R ε α).bind f = .exc c x e := rfl
@[simp] theorem bind_bad (f : α → R ε β) : (R.bad : R ε α).bind f = .bad := rfl
@[simp] theorem map_ok (a : α) (f : α → β) : (R.ok a : R ε α).map f = .ok (f a) := rfl
@[simp] theorem map_exc (c x) (e : ε) (f : α → β) : (R.exc c x e : R ε α).map f = .exc c x e := rfl
@[simp] theorem map_bad (f : α → β) : (R.bad : R ε α).map f = .bad := rfl
@[simp] theorem ofO_some (a : α) : (R.ofO (some a) : R ε α) = .ok a := rfl
@[simp] theorem ofO_none : (R.ofO (none : Option α) : R ε α) = .bad := rfl
end R

/-- what a name holds: nothing; a value; a list (dict) that nobody else knows; one that a caller lent -/
inductive Slot where
  | emp | val (d : D) | own (d : D) | io (d : D)
deriving Inhabited
def Slot.d : Slot → D
  | .emp => .non
  | .val d => d
  | .own d => d
  | .io d => d
@[simp] theorem Slot.d_val (d : D) : (Slot.val d).d = d := rfl
@[simp] theorem Slot.d_own (d : D) : (Slot.own d).d = d := rfl
@[simp] theorem Slot.d_io (d : D) : (Slot.io d).d = d := rfl
/-- what may be changed here -/
def Slot.mu? : Slot → Option D
  | .own d => some d
  | .io d => some d
  | _ => none
def Slot.put : Slot → D → Slot
  | .own _, d => .own d
  | .io _, d => .io d
  | s, _ => s
abbrev Sts := List Slot

/-! ## codes -/
inductive Op where
  | bin (o : Operator) | neg | not | cmp (o : CmpOp)
  | ix | sl (lo hi : Bool) | slb
  | len | isi (n : String) | int | abs | all | any | sum | max | min | tuple | list | repr | str | tru | ck
  | join | index | count | upper | get2
  | inK (kvs : List (Str × Int)) (neg : Bool) | ixK (kvs : List (Str × Int))
inductive Mk where
  | tup | lst
  deriving Repr
inductive Mu where
  | append | extend | pop | popi | insert
  deriving Repr
inductive Sk where
  | it | rng | enum | zip
  deriving Repr
inductive T where
  | name (i : Nat) (o : Bool) | tup (ts : List T)

inductive E where
  | lit (d : D)
  | var (i : Nat)
  | op (o : Op) (es : List E)
  | mk (o : Mk) (es : List E)
  | and (a b : E) | or (a b : E) | ife (t a b : E)
  | chain (a : E) (o : CmpOp) (b : E) (o2 : CmpOp) (c : E)
  | call (f : Nat) (m : List Bool) (es : List E)
  | mu (m : Mu) (i : Nat) (es : List E)
  | lc (vs : List Nat) (t : T) (k : Sk) (src : List E) (ifs : List E) (elt : E)

inductive S where
  | asg (t : T) (e : E)
  | par (ts : List (Nat × Bool)) (es : List E)
  | seti (i : Nat) (k v : E)
  | aug (i : Nat) (o : Operator) (e : E)
  | ret (e : E) | retn | reto (i : Nat)
  | exp (e : E) | pass | brk | cnt
  | ite (t : E) (a b : List S)
  | whl (t : E) (b : List S)
  | for (t : T) (k : Sk) (src : List E) (b : List S)
  | raise (c : Str) (e : E)

/-! ## what operators give -/
abbrev Line : Nat := 16777216
def D.okd (d : D) : Bool := d.pure && SeqAt.shaped d.py
def D.eqv (a b : D) : Bool := PyData.eqv a.py b.py
def D.isNon : D → Bool
  | .non => true
  | _ => false
/-- truth of a value -/
def truth : D → Option Bool
  | .non => some false
  | .bl b => some b
  | .int i => some (i != 0)
  | .str s => if s.length ≤ Line then some (s.length != 0) else none
  | .tup xs => some (!xs.isEmpty)
  | .lst xs => some (!xs.isEmpty)
  | .dic kvs => some (!kvs.isEmpty)
  | _ => none
/-- a small divisor, a small factor -/
def smallI (i : Int) : Bool := decide (-(2 ^ 64) < i) && decide (i < 2 ^ 64)
def midI (i : Int) : Bool := decide (i.natAbs < 2 ^ 400)
def mulOk (i j : Int) : Bool := smallI i || smallI j || (midI i && midI j)
def divOk (j : Int) : Bool := decide (j ≠ 0) && midI j
def powOk (i j : Int) : Bool := decide (0 ≤ j) && decide (j ≤ 1000000) && decide (i.natAbs < 2 ^ 64)
def catS (a b : Str) : Option Slot := if a.length + b.length ≤ Line then some (.val (.str (a ++ b))) else none
def binf : Operator → D → D → Option Slot
  | .Add, .int i, .int j => some (.val (.int (i + j)))
  | .Sub, .int i, .int j => some (.val (.int (i - j)))
  | .Mult, .int i, .int j => if mulOk i j then some (.val (.int (i * j))) else none
  | .FloorDiv, .int i, .int j => if divOk j then some (.val (.int (i.fdiv j))) else none
  | .Mod, .int i, .int j => if j ≠ 0 then some (.val (.int (i.fmod j))) else none
  | .Pow, .int i, .int j => if powOk i j then some (.val (.int (i ^ j.toNat))) else none
  | .LShift, .int i, .int j => if powOk i j then some (.val (.int (i * 2 ^ j.toNat))) else none
  | .RShift, .int i, .int j => if 0 ≤ j then some (.val (.int (i / 2 ^ j.toNat))) else none
  | .BitAnd, .int i, .int j => some (.val (.int (Builtin.bitAnd i j)))
  | .BitOr, .int i, .int j => some (.val (.int (Builtin.bitOr i j)))
  | .Add, .str a, .str b => catS a b
  | .Add, .lst xs, .lst ys => if xs.length + ys.length ≤ Line then some (.own (.lst (xs ++ ys))) else none
  | .Add, .tup xs, .tup ys => if xs.length + ys.length ≤ Line then some (.val (.tup (xs ++ ys))) else none
  | .Mult, .lst xs, .int k => if -(2 ^ 63) ≤ k ∧ k < 2 ^ 63 ∧ xs.length * k.toNat ≤ Line then some (.own (.lst (List.replicate k.toNat xs).flatten)) else none
  | _, _, _ => none
/-- x op= y of what does not change in place -/
def augf : Operator → D → D → Option D
  | .Add, .int i, .int j => some (.int (i + j))
  | .Sub, .int i, .int j => some (.int (i - j))
  | .Mult, .int i, .int j => if mulOk i j then some (.int (i * j)) else none
  | .Add, .str a, .str b => if a.length + b.length ≤ Line then some (.str (a ++ b)) else none
  | _, _, _ => none
def cmpf : CmpOp → D → D → Option Bool
  | .Lt, .int i, .int j => some (decide (i < j))
  | .LtE, .int i, .int j => some (decide (i ≤ j))
  | .Gt, .int i, .int j => some (decide (j < i))
  | .GtE, .int i, .int j => some (decide (j ≤ i))
  | .Lt, .str i, .str j => some (decide (i.cps.toList < j.cps.toList))
  | .Eq, .str i, .str j => some (decide (i = j))
  | .NotEq, .str i, .str j => some (!decide (i = j))
  | .Eq, a, b => if a.okd && b.okd then some (a.eqv b) else none
  | .NotEq, a, b => if a.okd && b.okd then some (!a.eqv b) else none
  | .Is, a, .non => some a.isNon
  | .IsNot, a, .non => some (!a.isNon)
  | .In, a, .lst xs => if a.okd && D.okd (.lst xs) then some (xs.any fun x => x.eqv a) else none
  | .NotIn, a, .lst xs => if a.okd && D.okd (.lst xs) then some (!xs.any fun x => x.eqv a) else none
  | _, _, _ => none
def ixf : D → D → Option D
  | .lst xs, .int i => L2.atI xs i
  | .tup xs, .int i => L2.atI xs i
  | .str z, .int i => if z.length ≤ Line then (L2.atI z.cps.toList i).map fun c => .str ⟨#[c]⟩ else none
  | _, _ => none
def partI : D → Option (Option Int)
  | .int i => some (some i)
  | _ => none
def cutD (xs : List D) (lo hi : Option Int) : List D := (xs.drop (HT.sIx xs.length 0 lo)).take (HT.sIx xs.length xs.length hi - HT.sIx xs.length 0 lo)
def slf (lo hi : Option Int) : D → Option Slot
  | .lst xs => some (.own (.lst (cutD xs lo hi)))
  | .tup xs => some (.val (.tup (cutD xs lo hi)))
  | _ => none
/-- a slice's bounds, where they stand -/
def bounds (lo hi : Bool) (r : List D) : Option (Option Int × Option Int) := match lo, hi, r with
  | false, false, [] => some (none, none)
  | true, false, [.int i] => some (some i, none)
  | false, true, [.int j] => some (none, some j)
  | true, true, [.int i, .int j] => some (some i, some j)
  | _, _, _ => none
def intsD : List D → Option (List Int)
  | [] => some []
  | .int i :: r => (intsD r).map (i :: ·)
  | _ => none
def blsD : List D → Option (List Bool)
  | [] => some []
  | .bl b :: r => (blsD r).map (b :: ·)
  | _ => none
def itemsD : D → Option (List D)
  | .lst xs => some xs
  | .rol xs => some xs
  | .tup xs => some xs
  | _ => none
def maxI : List Int → Int
  | [] => 0
  | x :: r => r.foldl (fun a b => if b > a then b else a) x
def minI : List Int → Int
  | [] => 0
  | x :: r => r.foldl (fun a b => if b < a then b else a) x
/-- a value's kind -/
def kindD : D → Option String
  | .non => some "NoneType"
  | .bl _ => some "bool"
  | .int _ => some "int"
  | .str _ => some "str"
  | .tup _ => some "tuple"
  | .lst _ => some "list"
  | _ => none
def isiD (n : String) (d : D) : Option Bool := (kindD d).bind fun t => L2.kitB t n
def lenD : D → Option Nat
  | .lst xs => some xs.length
  | .rol xs => some xs.length
  | .tup xs => some xs.length
  | .str z => if z.length ≤ Line then some z.length else none
  | _ => none
def reprOk (d : D) : Bool := d.okd && d.py.showable && decide (d.py.shown.length ≤ Line)
def b1 (o : Option Bool) : Option Slot := o.map fun b => .val (.bl b)
def i1 (o : Option Int) : Option Slot := o.map fun b => .val (.int b)
def opf : Op → List D → Option Slot
  | .bin o, [a, b] => binf o a b
  | .neg, [.int i] => some (.val (.int (-i)))
  | .cmp o, [a, b] => b1 (cmpf o a b)
  | .ix, [a, b] => (ixf a b).map .val
  | .sl lo hi, a :: r => (bounds lo hi r).bind fun p => slf p.1 p.2 a
  | .len, [a] => (lenD a).map fun (n : Nat) => .val (.int n)
  | .isi n, [a] => b1 (isiD n a)
  | .int, [.int i] => some (.val (.int i))
  | .int, [.bl b] => some (.val (.int (if b then 1 else 0)))
  | .abs, [.int i] => some (.val (.int (if i < 0 then -i else i)))
  | .all, [.lst xs] => b1 ((blsD xs).map fun bs => bs.all id)
  | .any, [.lst xs] => b1 ((blsD xs).map fun bs => bs.any id)
  | .sum, [.lst xs] => i1 ((intsD xs).map List.sum)
  | .max, [.lst xs] => i1 ((intsD xs).bind fun ns => if ns.isEmpty then none else some (maxI ns))
  | .min, [.lst xs] => i1 ((intsD xs).bind fun ns => if ns.isEmpty then none else some (minI ns))
  | .max, [.int i, .int j] => some (.val (.int (if j > i then j else i)))
  | .min, [.int i, .int j] => some (.val (.int (if j < i then j else i)))
  | .tuple, [.lst xs] => some (.val (.tup xs))
  | .tuple, [.tup xs] => some (.val (.tup xs))
  | .list, [d] => (itemsD d).map fun xs => .own (.lst xs)
  | .tru, [a] => b1 (truth a)
  | .ck, [.int i] => some (.val (.int i))
  | .inK kvs neg, [.str z] => some (.val (.bl (if neg then !(kvs.lookup z).isSome else (kvs.lookup z).isSome)))
  | .ixK kvs, [.str z] => (kvs.lookup z).map fun i => .val (.int i)
  | .repr, [a] => if reprOk a then some (.val (.str a.py.shown)) else none
  | _, _ => none
def mkf : Mk → List D → Option Slot
  | .tup, ds => if ds.length ≤ Line then some (.val (.tup ds)) else none
  | .lst, ds => if ds.length ≤ Line then some (.own (.lst ds)) else none
/-- (what it answers, the new content) -/
def muf : Mu → D → List D → Option (D × D)
  | .append, .lst xs, [y] => if xs.length < Line then some (.non, .lst (xs ++ [y])) else none
  | .extend, .lst xs, [.lst ys] => if xs.length + ys.length ≤ Line then some (.non, .lst (xs ++ ys)) else none
  | .pop, .lst xs, [] => match xs.getLast? with
    | some y => some (y, .lst xs.dropLast)
    | none => none
  | _, _, _ => none
def setf : D → D → D → Option D
  | .lst xs, .int k, v => (L2.ixN xs.length k).map fun j => .lst (xs.set j v)
  | _, _, _ => none
def rngf (i j : Int) : Option (List D) :=
  if -(2 ^ 62) ≤ i ∧ i < 2 ^ 62 ∧ -(2 ^ 62) ≤ j ∧ j < 2 ^ 62 then some ((List.range (j - i).toNat).map fun k => D.int (i + (k : Nat))) else none
def signsD (z : Str) : List D := z.cps.toList.map fun c => D.str ⟨#[c]⟩
/-- what a for walks -/
def srcf : Sk → List D → Option (List D)
  | .it, [.lst xs] => some xs
  | .it, [.tup xs] => some xs
  | .it, [.rol xs] => some xs
  | .it, [.str z] => some (signsD z)
  | .rng, [.int j] => rngf 0 j
  | .rng, [.int i, .int j] => rngf i j
  | .enum, [.lst xs] => some ((List.range xs.length).zipWith (fun (i : Nat) x => D.tup [.int i, x]) xs)
  | .zip, [.tup xs, .tup ys] => some (xs.zipWith (fun x y => D.tup [x, y]) ys)
  | .zip, [.lst xs, .lst ys] => some (xs.zipWith (fun x y => D.tup [x, y]) ys)
  | .zip, [.lst xs, .tup ys] => some (xs.zipWith (fun x y => D.tup [x, y]) ys)
  | .zip, [.tup xs, .lst ys] => some (xs.zipWith (fun x y => D.tup [x, y]) ys)
  | _, _ => none

/-! ## the reading of codes -/
inductive Arg where
  | dat (d : D) | ref (i : Nat)
def getv (ρ : Sts) (i : Nat) : R Sts (Slot × Sts) := match ρ[i]? with
  | some (.val d) => .ok (.val d, ρ)
  | some (.own d) => .ok (.val d, ρ.set i (.val d))
  | _ => .bad
def Arg.get (ρ : Sts) : Arg → Option D
  | .dat d => some d
  | .ref i => (ρ[i]?).bind Slot.mu?
def gets (ρ : Sts) : List Arg → Option (List D)
  | [] => some []
  | a :: r => match a.get ρ, gets ρ r with
    | some d, some ds => some (d :: ds)
    | _, _ => none
/-- forget the ownership -/
def rel (r : R Sts (Slot × Sts)) : R Sts (D × Sts) := r.map fun p => (p.1.d, p.2)
def opR (o : Op) (p : List Arg × Sts) : R Sts (Slot × Sts) := match gets p.2 p.1 with
  | some ds => (R.ofO (opf o ds)).map fun s => (s, p.2)
  | none => .bad
def isOwn (ρ : Sts) (i : Nat) : Bool := ((ρ[i]?).bind Slot.mu?).isSome
/-- a new content of the name i -/
def putE (ρ : Sts) (i : Nat) (d : D) : Sts := ρ.set i ((ρ.getD i .emp).put d)
mutual
def assignT : T → Slot → Sts → Option Sts
  | .name i o, s, ρ => if i < ρ.length then some (ρ.set i (if o then s else .val s.d)) else none
  | .tup ts, s, ρ => match s.d with
    | .tup xs => if xs.length = ts.length then assignTs ts xs ρ else none
    | .lst xs => if xs.length = ts.length then assignTs ts xs ρ else none
    | _ => none
def assignTs : List T → List D → Sts → Option Sts
  | [], [], ρ => some ρ
  | t :: ts, x :: xs, ρ => (assignT t (.val x) ρ).bind fun ρ1 => assignTs ts xs ρ1
  | _, _, _ => none
end
def assignPs : List (Nat × Bool) → List Slot → Sts → Option Sts
  | [], [], ρ => some ρ
  | (i, o) :: ts, s :: ss, ρ => (assignT (.name i o) s ρ).bind fun ρ1 => assignPs ts ss ρ1
  | _, _, _ => none
def wipeE (ρ : Sts) : List Nat → Sts
  | [] => ρ
  | v :: vs => (wipeE ρ vs).set v .emp
/-- the slots vs as they are in ρ0 -/
def backE (ρ0 ρ : Sts) : List Nat → Sts
  | [] => ρ
  | v :: vs => (backE ρ0 ρ vs).set v (ρ0.getD v .emp)
def ownAny (ρ : Sts) (vs : List Nat) : Bool := vs.any (isOwn ρ)
/-- a comprehension's turns -/
def lcLoop (vs : List Nat) (t : T) (tst : Sts → R Sts (Bool × Sts)) (elt : Sts → R Sts (D × Sts)) : List D → List D → Sts → R Sts (List D × Sts)
  | [], acc, ρ => .ok (acc, ρ)
  | x :: xs, acc, ρ => (R.ofO (assignT t (.val x) ρ)).bind fun ρ1 => (tst ρ1).bind fun p =>
      if p.1 then (elt p.2).bind fun q => if acc.length < Line then lcLoop vs t tst elt xs (acc ++ [q.1]) (wipeE q.2 vs) else .bad
      else lcLoop vs t tst elt xs acc (wipeE p.2 vs)
/-- no exception may leave a comprehension -/
def noExc {α : Type} : R Sts α → R Sts α
  | .exc _ _ _ => .bad
  | r => r

/-- what stands behind a call -/
abbrev Fn := List D → R (List D) (Slot × List D)
def setIos : List Arg → List D → Sts → Option Sts
  | [], [], ρ => some ρ
  | .ref i :: as, c :: cs, ρ => setIos as cs (putE ρ i c)
  | .dat _ :: as, cs, ρ => setIos as cs ρ
  | _, _, _ => none
def refs : List Arg → List Nat
  | [] => []
  | .ref i :: r => i :: refs r
  | .dat _ :: r => refs r
def callR (Φ : Nat → Fn) (f : Nat) (p : List Arg × Sts) : R Sts (Slot × Sts) := match gets p.2 p.1 with
  | some ds => if (refs p.1).Nodup then (match Φ f ds with
      | .ok (s, cs) => (R.ofO (setIos p.1 cs p.2)).map fun ρ => (s, ρ)
      | .exc c x cs => (R.ofO (setIos p.1 cs p.2)).bind fun ρ => .exc c x ρ
      | .bad => .bad) else .bad
  | none => .bad
def muR (m : Mu) (i : Nat) (p : List D × Sts) : R Sts (Slot × Sts) := match (p.2[i]?).bind Slot.mu? with
  | some d => match muf m d p.1 with
    | some (r, d') => .ok (.val r, putE p.2 i d')
    | none => .bad
  | none => .bad
def tru (r : R Sts (D × Sts)) : R Sts (Bool × Sts) := r.bind fun p => match truth p.1 with
  | some b => .ok (b, p.2)
  | none => .bad
def bw (a : E) (ρ : Sts) (r : R Sts (D × Sts)) : R Sts (Arg × Sts) := match a with
  | .var i => if isOwn ρ i then .ok (.ref i, ρ) else r.map fun p => (.dat p.1, p.2)
  | _ => r.map fun p => (.dat p.1, p.2)
def cw (m : Bool) (a : E) (ρ : Sts) (r : R Sts (D × Sts)) : R Sts (Arg × Sts) := if m then (match a with
    | .var i => if isOwn ρ i then .ok (.ref i, ρ) else .bad
    | _ => .bad) else r.map fun p => (.dat p.1, p.2)
mutual
def ev (Φ : Nat → Fn) : E → Sts → R Sts (Slot × Sts)
  | .lit d, ρ => .ok (.val d, ρ)
  | .var i, ρ => getv ρ i
  | .op o es, ρ => (evBs Φ es ρ).bind (opR o)
  | .mk o es, ρ => (evVs Φ es ρ).bind fun p => (R.ofO (mkf o p.1)).map fun s => (s, p.2)
  | .and a b, ρ => (rel (ev Φ a ρ)).bind fun p => match truth p.1 with
    | some true => (rel (ev Φ b p.2)).map fun q => (.val q.1, q.2)
    | some false => .ok (.val p.1, p.2)
    | none => .bad
  | .or a b, ρ => (rel (ev Φ a ρ)).bind fun p => match truth p.1 with
    | some true => .ok (.val p.1, p.2)
    | some false => (rel (ev Φ b p.2)).map fun q => (.val q.1, q.2)
    | none => .bad
  | .ife t a b, ρ => (tru (rel (ev Φ t ρ))).bind fun p => if p.1 then (rel (ev Φ a p.2)).map fun q => (.val q.1, q.2) else (rel (ev Φ b p.2)).map fun q => (.val q.1, q.2)
  | .chain a o b o2 c, ρ => (rel (ev Φ a ρ)).bind fun p => (rel (ev Φ b p.2)).bind fun q => match cmpf o p.1 q.1 with
    | some true => (rel (ev Φ c q.2)).bind fun r => (R.ofO (cmpf o2 q.1 r.1)).map fun x => (.val (.bl x), r.2)
    | some false => .ok (.val (.bl false), q.2)
    | none => .bad
  | .call f m es, ρ => (evCs Φ m es ρ).bind (callR Φ f)
  | .mu m i es, ρ => if isOwn ρ i then (evVs Φ es ρ).bind (muR m i) else .bad
  | .lc vs t k src ifs elt, ρ => (evVs Φ src ρ).bind fun p => match srcf k p.1 with
    | some items => if ownAny p.2 vs then .bad else
        (noExc (lcLoop vs t (fun ρ => evTs Φ ifs ρ) (fun ρ => rel (ev Φ elt ρ)) items [] (wipeE p.2 vs))).map fun q => (.own (.lst q.1), backE p.2 q.2 vs)
    | none => .bad
def evPs (Φ : Nat → Fn) : List E → Sts → R Sts (List Slot × Sts)
  | [], ρ => .ok ([], ρ)
  | e :: es, ρ => (ev Φ e ρ).bind fun p => (evPs Φ es p.2).map fun q => (p.1 :: q.1, q.2)
def evVs (Φ : Nat → Fn) : List E → Sts → R Sts (List D × Sts)
  | [], ρ => .ok ([], ρ)
  | e :: es, ρ => (rel (ev Φ e ρ)).bind fun p => (evVs Φ es p.2).map fun q => (p.1 :: q.1, q.2)
def evBs (Φ : Nat → Fn) : List E → Sts → R Sts (List Arg × Sts)
  | [], ρ => .ok ([], ρ)
  | e :: es, ρ => (bw e ρ (rel (ev Φ e ρ))).bind fun p => (evBs Φ es p.2).map fun q => (p.1 :: q.1, q.2)
def evCs (Φ : Nat → Fn) : List Bool → List E → Sts → R Sts (List Arg × Sts)
  | _, [], ρ => .ok ([], ρ)
  | m, e :: es, ρ => (cw (m.headD false) e ρ (rel (ev Φ e ρ))).bind fun p => (evCs Φ m.tail es p.2).map fun q => (p.1 :: q.1, q.2)
def evTs (Φ : Nat → Fn) : List E → Sts → R Sts (Bool × Sts)
  | [], ρ => .ok (true, ρ)
  | e :: es, ρ => (tru (rel (ev Φ e ρ))).bind fun p => if p.1 then evTs Φ es p.2 else .ok (false, p.2)
end

inductive Out where
  | nx (ρ : Sts) | rt (s : Slot) (ρ : Sts) | bk (ρ : Sts) | ct (ρ : Sts)
def forR (step : D → Sts → R Sts Out) : List D → Sts → R Sts Out
  | [], ρ => .ok (.nx ρ)
  | x :: xs, ρ => match step x ρ with
    | .ok (.nx ρ1) => forR step xs ρ1
    | .ok (.ct ρ1) => forR step xs ρ1
    | .ok (.bk ρ1) => .ok (.nx ρ1)
    | .ok (.rt s ρ1) => .ok (.rt s ρ1)
    | .exc c x e => .exc c x e
    | .bad => .bad
def whlR (tst : Sts → R Sts (Bool × Sts)) (body : Sts → R Sts Out) : Nat → Sts → R Sts Out
  | 0, _ => .bad
  | n + 1, ρ => (tst ρ).bind fun p => if p.1 then (match body p.2 with
      | .ok (.nx ρ1) => whlR tst body n ρ1
      | .ok (.ct ρ1) => whlR tst body n ρ1
      | .ok (.bk ρ1) => .ok (.nx ρ1)
      | .ok (.rt s ρ1) => .ok (.rt s ρ1)
      | .exc c x e => .exc c x e
      | .bad => .bad) else .ok (.nx p.2)
/-- more turns than any loop here takes -/
def fuel : Nat := 4611686018427387904
def thenR (r : R Sts Out) (f : Sts → R Sts Out) : R Sts Out := match r with
  | .ok (.nx ρ) => f ρ
  | r => r
mutual
def evS (Φ : Nat → Fn) : S → Sts → R Sts Out
  | .asg t e, ρ => (ev Φ e ρ).bind fun p => (R.ofO (assignT t p.1 p.2)).map .nx
  | .par ts es, ρ => (evPs Φ es ρ).bind fun p => (R.ofO (assignPs ts p.1 p.2)).map .nx
  | .seti i k v, ρ => (rel (ev Φ v ρ)).bind fun x => if isOwn x.2 i then (rel (ev Φ k x.2)).bind fun y => match (y.2[i]?).bind Slot.mu? with
    | some d => (R.ofO (setf d y.1 x.1)).map fun d' => .nx (putE y.2 i d')
    | none => .bad
    else .bad
  | .aug i o e, ρ => match ρ[i]? with
    | some (.val d) => (rel (ev Φ e ρ)).bind fun x => (R.ofO (augf o d x.1)).map fun d' => .nx (x.2.set i (.val d'))
    | _ => .bad
  | .ret e, ρ => (ev Φ e ρ).map fun p => .rt p.1 p.2
  | .retn, ρ => .ok (.rt (.val .non) ρ)
  | .reto i, ρ => match ρ[i]? with
    | some (.own d) => .ok (.rt (.own d) (ρ.set i .emp))
    | some (.val d) => .ok (.rt (.val d) ρ)
    | _ => .bad
  | .exp e, ρ => (ev Φ e ρ).map fun p => .nx p.2
  | .pass, ρ => .ok (.nx ρ)
  | .brk, ρ => .ok (.bk ρ)
  | .cnt, ρ => .ok (.ct ρ)
  | .ite t a b, ρ => (tru (rel (ev Φ t ρ))).bind fun p => if p.1 then evSs Φ a p.2 else evSs Φ b p.2
  | .whl t b, ρ => whlR (fun ρ => tru (rel (ev Φ t ρ))) (fun ρ => evSs Φ b ρ) fuel ρ
  | .for t k src b, ρ => (evVs Φ src ρ).bind fun p => match srcf k p.1 with
    | some items => forR (fun x ρ => (R.ofO (assignT t (.val x) ρ)).bind fun ρ1 => evSs Φ b ρ1) items p.2
    | none => .bad
  | .raise _ _, _ => .bad
def evSs (Φ : Nat → Fn) : List S → Sts → R Sts Out
  | [], ρ => .ok (.nx ρ)
  | s :: r, ρ => thenR (evS Φ s ρ) fun ρ1 => evSs Φ r ρ1
end
/-- a def's entry: the parameters (own where the mask says so), the other names empty -/
def entry : List Bool → List D → List Slot
  | _, [] => []
  | m, d :: ds => (if m.headD false then Slot.io d else Slot.val d) :: entry m.tail ds
def outIos : List Bool → Sts → Option (List D)
  | [], _ => some []
  | false :: m, _ :: ρ => outIos m ρ
  | true :: m, .io d :: ρ => (outIos m ρ).map (d :: ·)
  | _, _ => none
/-- a def: its mask, its names' number, its body -/
structure Def where
  m : List Bool
  n : Nat
  ro : Bool
  body : List S
def outR (ro : Bool) (m : List Bool) (s : Slot) (ρ : Sts) : R (List D) (Slot × List D) :=
  (R.ofO (outIos m ρ)).map fun cs => ((if ro then s else .val s.d), cs)
def runD (Φ : Nat → Fn) (d : Def) (ds : List D) : R (List D) (Slot × List D) :=
  if ds.length = d.m.length then
    match evSs Φ d.body (entry d.m ds ++ List.replicate (d.n - d.m.length) .emp) with
    | .ok (.nx ρ) => outR d.ro d.m (.val .non) ρ
    | .ok (.rt s ρ) => outR d.ro d.m s ρ
    | .ok _ => .bad
    | .exc c x ρ => (R.ofO (outIos d.m ρ)).bind fun cs => .exc c x cs
    | .bad => .bad
  else .bad
end DL
namespace DL
open PySem L2

/-- the written part; where a def stands; a class of errors: where, and its field -/
structure Gx where
  K : PySem.W.Frag
  fa : Str → Option Addr
  ca : Str → Option (Addr × Str)

mutual
/-- the value v is the datum d -/
inductive Rep (G : Gx) (H : Hp) : V → D → Prop
  | non : Rep G H .non .non
  | bl (b : Bool) : Rep G H (.bl b) (.bl b)
  | int (i : Int) : Rep G H (.int i) (.int i)
  | str (s : Str) : Rep G H (.str s) (.str s)
  | lst {a : Addr} {xs : List V} {ds : List D} : H a = some (.lst xs) → Reps G H xs ds → Rep G H (.ref a) (.lst ds)
  | tup {a : Addr} {xs : List V} {ds : List D} : SqT G.K H a xs → Reps G H xs ds → Rep G H (.ref a) (.tup ds)
  | rol {a : Addr} {xs : List V} {ds : List D} : SqL G.K H a xs → Reps G H xs ds → Rep G H (.ref a) (.rol ds)
  | fn {a : Addr} {x : Str} : G.fa x = some a → Rep G H (.ref a) (.fn x)
  | ty (n : String) : Rep G H (.ty n) (.ty n)
inductive Reps (G : Gx) (H : Hp) : List V → List D → Prop
  | nil : Reps G H [] []
  | cons {v : V} {vs : List V} {d : D} {ds : List D} : Rep G H v d → Reps G H vs ds → Reps G H (v :: vs) (d :: ds)
end
variable {G : Gx} {H H' : Hp} {O O' : List Addr}

theorem SqL.mono {K : PySem.W.Frag} {a : Addr} {xs : List V} (k : ∀ b o, H b = some o → H' b = some o) (h : L2.SqL K H a xs) : L2.SqL K H' a xs := by
  rcases h with h | h
  · rcases h with h | ⟨o, h⟩
    · exact .inl (.inl (k _ _ h))
    · exact .inl (.inr ⟨o, k _ _ h⟩)
  · exact .inr h
theorem SqT.mono {K : PySem.W.Frag} {a : Addr} {xs : List V} (k : ∀ b o, H b = some o → H' b = some o) (h : L2.SqT K H a xs) : L2.SqT K H' a xs := by
  rcases h with h | h
  · rcases h with h | ⟨o, h⟩
    · exact .inl (.inl (k _ _ h))
    · exact .inl (.inr ⟨o, k _ _ h⟩)
  · exact .inr h
mutual
theorem Rep.mono (k : ∀ b o, H b = some o → H' b = some o) : ∀ {v : V} {d : D}, Rep G H v d → Rep G H' v d
  | _, _, .non => .non
  | _, _, .bl b => .bl b
  | _, _, .int i => .int i
  | _, _, .str s => .str s
  | _, _, .lst h r => .lst (k _ _ h) (Reps.mono k r)
  | _, _, .tup h r => .tup (SqT.mono k h) (Reps.mono k r)
  | _, _, .rol h r => .rol (SqL.mono k h) (Reps.mono k r)
  | _, _, .fn h => .fn h
  | _, _, .ty n => .ty n
theorem Reps.mono (k : ∀ b o, H b = some o → H' b = some o) : ∀ {vs : List V} {ds : List D}, Reps G H vs ds → Reps G H' vs ds
  | _, _, .nil => .nil
  | _, _, .cons h r => .cons (Rep.mono k h) (Reps.mono k r)
end
theorem Reps.length : ∀ {vs : List V} {ds : List D}, Reps G H vs ds → vs.length = ds.length
  | _, _, .nil => rfl
  | _, _, .cons _ r => by simp [Reps.length r]
theorem Reps.append : ∀ {vs ws : List V} {ds es : List D}, Reps G H vs ds → Reps G H ws es → Reps G H (vs ++ ws) (ds ++ es)
  | _, _, _, _, .nil, s => s
  | _, _, _, _, .cons h r, s => .cons h (Reps.append r s)
theorem Reps.take : ∀ {vs : List V} {ds : List D} (n : Nat), Reps G H vs ds → Reps G H (vs.take n) (ds.take n)
  | _, _, 0, _ => .nil
  | _, _, _ + 1, .nil => .nil
  | _, _, n + 1, .cons h r => .cons h (Reps.take n r)
theorem Reps.drop : ∀ {vs : List V} {ds : List D} (n : Nat), Reps G H vs ds → Reps G H (vs.drop n) (ds.drop n)
  | _, _, 0, r => r
  | _, _, _ + 1, .nil => .nil
  | _, _, n + 1, .cons _ r => Reps.drop n r
theorem Reps.set : ∀ {vs : List V} {ds : List D} {v : V} {d : D} (n : Nat), Rep G H v d → Reps G H vs ds → Reps G H (vs.set n v) (ds.set n d)
  | _, _, _, _, _, _, .nil => .nil
  | _, _, _, _, 0, h, .cons _ r => .cons h r
  | _, _, _, _, n + 1, h, .cons q r => .cons q (Reps.set n h r)
theorem Reps.get : ∀ {vs : List V} {ds : List D} {i : Nat} {d : D}, Reps G H vs ds → ds[i]? = some d → ∃ v, vs[i]? = some v ∧ Rep G H v d
  | _, _, _, _, .nil, e => by simp at e
  | _, _, 0, _, .cons h _, e => by simp at e; subst e; exact ⟨_, rfl, h⟩
  | _, _, i + 1, d, .cons _ r, e => by
    obtain ⟨v, h1, h2⟩ := Reps.get (i := i) (d := d) r (by simpa using e)
    exact ⟨v, by simpa using h1, h2⟩
theorem Reps.getV : ∀ {vs : List V} {ds : List D} {i : Nat} {v : V}, Reps G H vs ds → vs[i]? = some v → ∃ d, ds[i]? = some d ∧ Rep G H v d
  | _, _, _, _, .nil, e => by simp at e
  | _, _, 0, _, .cons h _, e => by simp at e; subst e; exact ⟨_, rfl, h⟩
  | _, _, i + 1, v, .cons _ r, e => by
    obtain ⟨d, h1, h2⟩ := Reps.getV (i := i) (v := v) r (by simpa using e)
    exact ⟨d, by simpa using h1, h2⟩
theorem Reps.dropLast {vs : List V} {ds : List D} (r : Reps G H vs ds) : Reps G H vs.dropLast ds.dropLast := by
  rw [List.dropLast_eq_take, List.dropLast_eq_take, r.length]
  exact r.take _
theorem Reps.rep {vs : List V} {ds : List D} (r : Reps G H vs ds) : ∀ k : Nat, Reps G H (List.replicate k vs).flatten (List.replicate k ds).flatten
  | 0 => .nil
  | k + 1 => by simpa [List.replicate_succ] using r.append (Reps.rep r k)

/-- the heap without the owned -/
def cut (H : Hp) (O : List Addr) : Hp := fun b => if b ∈ O then none else H b
theorem cut_some {b : Addr} {o : HO} : cut H O b = some o ↔ b ∉ O ∧ H b = some o := by
  unfold cut
  by_cases h : b ∈ O
  · simp [h]
  · simp [h]
theorem cut_le {b : Addr} {o : HO} (h : cut H O b = some o) : H b = some o := (cut_some.mp h).2
theorem Rep.full {v : V} {d : D} (r : Rep G (cut H O) v d) : Rep G H v d := r.mono fun _ _ h => cut_le h
def Ext (O : List Addr) (H : Hp) (O' : List Addr) (H' : Hp) : Prop := ∀ b o, b ∉ O → H b = some o → b ∉ O' ∧ H' b = some o
theorem Ext.refl : Ext O H O H := fun _ _ h1 h2 => ⟨h1, h2⟩
theorem Ext.trans {O1 O2 O3 : List Addr} {H1 H2 H3 : Hp} (a : Ext O1 H1 O2 H2) (b : Ext O2 H2 O3 H3) : Ext O1 H1 O3 H3 := fun c o h1 h2 =>
  let ⟨h3, h4⟩ := a c o h1 h2
  b c o h3 h4
theorem Ext.cuts (e : Ext O H O' H') : ∀ b o, cut H O b = some o → cut H' O' b = some o := fun b o h =>
  let ⟨h1, h2⟩ := cut_some.mp h
  cut_some.mpr (e b o h1 h2)
theorem Ext.rep (e : Ext O H O' H') {v : V} {d : D} (r : Rep G (cut H O) v d) : Rep G (cut H' O') v d := r.mono e.cuts
theorem Ext.reps (e : Ext O H O' H') {v : List V} {d : List D} (r : Reps G (cut H O) v d) : Reps G (cut H' O') v d := r.mono e.cuts
theorem Ext.same (s : Same H H') : Ext O H O H' := fun b o h1 h2 => ⟨h1, s b o h2⟩

/-- a changeable object at a -/
def OwnAt (G : Gx) (H : Hp) (O : List Addr) (a : Addr) : D → Prop
  | .lst ds => ∃ xs, H a = some (.lst xs) ∧ Reps G (cut H O) xs ds
  | _ => False
theorem OwnAt.there {a : Addr} {d : D} (h : OwnAt G H O a d) : ∃ o, H a = some o ∧ Mut (some o) := by
  cases d with
  | lst ds => obtain ⟨xs, h, _⟩ := h; exact ⟨_, h, trivial⟩
  | _ => exact h.elim
theorem OwnAt.mono {a : Addr} {d : D} (h : OwnAt G H O a d) (ha : ∀ o, H a = some o → H' a = some o) (k : ∀ b o, cut H O b = some o → cut H' O' b = some o) : OwnAt G H' O' a d := by
  cases d with
  | lst ds => obtain ⟨xs, h, r⟩ := h; exact ⟨xs, ha _ h, r.mono k⟩
  | _ => exact h.elim
/-- let it be known -/
theorem OwnAt.rep {a : Addr} {d : D} (h : OwnAt G H O a d) (k : ∀ b o, cut H O b = some o → H' b = some o) (ha : ∀ o, H a = some o → H' a = some o) : Rep G H' (.ref a) d := by
  cases d with
  | lst ds => obtain ⟨xs, h, r⟩ := h; exact .lst (ha _ h) (r.mono k)
  | _ => exact h.elim

/-- what is fixed for a def's run: the text, the heap at its entry, what the caller lent, what the callers own -/
structure Pm where
  G : Gx
  H0 : Hp
  io : List (Nat × Addr)
  ex : List Addr
def Pm.ad (P : Pm) : List Addr := P.io.map (·.2)
structure Rel (P : Pm) (O : List Addr) (ρ : Sts) (σ : St) (H : Hp) : Prop where
  len : σ.length = ρ.length
  val : ∀ (i : Nat) (d : D), ρ[i]? = some (.val d) → ∃ v, σ[i]? = some (some v) ∧ Rep P.G (cut H O) v d
  own : ∀ (i : Nat) (d : D), ρ[i]? = some (.own d) → ∃ a, σ[i]? = some (some (.ref a)) ∧ a ∈ O ∧ a ∉ P.ex ∧ OwnAt P.G H O a d
  io : ∀ (i : Nat) (d : D), ρ[i]? = some (.io d) → ∃ a, σ[i]? = some (some (.ref a)) ∧ (i, a) ∈ P.io ∧ OwnAt P.G H O a d
  dis : ∀ (i j : Nat) (a : Addr) (s t : D), ρ[i]? = some (.own s) → ρ[j]? = some (.own t) → σ[i]? = some (some (V.ref a)) → σ[j]? = some (some (V.ref a)) → i = j
  iod : ∀ p ∈ P.io, ∀ q ∈ P.io, p.2 = q.2 → p = q
  fr : ∀ b o, b ∉ P.ad → P.H0 b = some o → H b = some o
  ofr : ∀ a ∈ O, a ∈ P.ex ∨ P.H0 a = none
  odom : ∀ a ∈ O, ∃ o, H a = some o ∧ Mut (some o)
  exs : ∀ a ∈ P.ex, a ∈ O
  sub : ∀ a ∈ P.ad, a ∈ P.ex
variable {P : Pm} {ρ : Sts} {σ : St}

/-- where nothing tracked is changed -/
theorem Rel.same (R : Rel P O ρ σ H) (s : Same H H') : Rel P O ρ σ H' := by
  have k : ∀ b o, cut H O b = some o → cut H' O b = some o := (Ext.same s).cuts
  refine ⟨R.len, fun i d e => ?_, fun i d e => ?_, fun i d e => ?_, R.dis, R.iod, fun b o h1 h2 => s _ _ (R.fr b o h1 h2), R.ofr, fun a h => ?_, R.exs, R.sub⟩
  · obtain ⟨v, h1, h2⟩ := R.val i d e
    exact ⟨v, h1, h2.mono k⟩
  · obtain ⟨a, h1, h2, h3, h4⟩ := R.own i d e
    exact ⟨a, h1, h2, h3, h4.mono (fun o => s a o) k⟩
  · obtain ⟨a, h1, h2, h3⟩ := R.io i d e
    exact ⟨a, h1, h2, h3.mono (fun o => s a o) k⟩
  · obtain ⟨o, h1, h2⟩ := R.odom a h
    exact ⟨o, s _ _ h1, h2⟩
theorem same_upd {p : Addr} {o : HO} (h : H p = none) : Same H (upd H p o) := fun b x e => by
  rw [upd_ne (ne_of_none e h)]; exact e
theorem Rel.ios (R : Rel P O ρ σ H) : ∀ a ∈ P.ad, a ∈ O := fun a h => R.exs a (R.sub a h)
theorem Rel.fresh (R : Rel P O ρ σ H) {p : Addr} (h : H p = none) : p ∉ O ∧ p ∉ P.ex ∧ P.H0 p = none := by
  have h1 : p ∉ O := fun m => by
    obtain ⟨o, e, _⟩ := R.odom p m
    rw [h] at e; cases e
  have h2 : p ∉ P.ex := fun m => h1 (R.exs p m)
  refine ⟨h1, h2, ?_⟩
  cases e : P.H0 p with
  | none => rfl
  | some o => have q := R.fr p o (fun m => h2 (R.sub p m)) e; rw [h] at q; cases q
theorem cut_new {p : Addr} {o : HO} (h : H p = none) : ∀ b x, cut H O b = some x → cut (upd H p o) (p :: O) b = some x := fun b x e => by
  obtain ⟨h1, h2⟩ := cut_some.mp e
  have hb : b ≠ p := ne_of_none h2 h
  exact cut_some.mpr ⟨by simp [hb, h1], by rw [upd_ne hb]; exact h2⟩
theorem ext_new {p : Addr} {o : HO} (h : H p = none) : Ext O H (p :: O) (upd H p o) := fun b x h1 h2 => by
  have hb : b ≠ p := ne_of_none h2 h
  exact ⟨by simp [hb, h1], by rw [upd_ne hb]; exact h2⟩
/-- a new object that is owned -/
theorem Rel.new (R : Rel P O ρ σ H) {p : Addr} {o : HO} (h : H p = none) (m : Mut (some o)) : Rel P (p :: O) ρ σ (upd H p o) := by
  obtain ⟨f1, f2, f3⟩ := R.fresh h
  have k := cut_new (O := O) (o := o) h
  have s : Same H (upd H p o) := same_upd h
  refine ⟨R.len, fun i d e => ?_, fun i d e => ?_, fun i d e => ?_, R.dis, R.iod, fun b x h1 h2 => s _ _ (R.fr b x h1 h2), fun a h => ?_, fun a h => ?_, fun a h => List.mem_cons_of_mem _ (R.exs a h), R.sub⟩
  · obtain ⟨v, h1, h2⟩ := R.val i d e
    exact ⟨v, h1, h2.mono k⟩
  · obtain ⟨a, h1, h2, h3, h4⟩ := R.own i d e
    exact ⟨a, h1, List.mem_cons_of_mem _ h2, h3, h4.mono (fun o => s a o) k⟩
  · obtain ⟨a, h1, h2, h3⟩ := R.io i d e
    exact ⟨a, h1, h2, h3.mono (fun o => s a o) k⟩
  · rcases List.mem_cons.mp h with rfl | h
    · exact .inr f3
    · exact R.ofr a h
  · rcases List.mem_cons.mp h with rfl | h
    · exact ⟨o, upd_same, m⟩
    · obtain ⟨o', h1, h2⟩ := R.odom a h
      exact ⟨o', s _ _ h1, h2⟩
/-- no own name holds it -/
def Apart (ρ : Sts) (σ : St) (a : Addr) : Prop := ∀ (i : Nat) (d : D), ρ[i]? = some (.own d) → σ[i]? ≠ some (some (V.ref a))
theorem ext_drop (a : Addr) : Ext O H (O.filter (· ≠ a)) H := fun b o h1 h2 => ⟨fun m => h1 (List.mem_filter.mp m).1, h2⟩
/-- an owned object is let known -/
theorem Rel.release (R : Rel P O ρ σ H) {a : Addr} (ha : a ∉ P.ex) (ap : Apart ρ σ a) : Rel P (O.filter (· ≠ a)) ρ σ H := by
  have k := (ext_drop (O := O) (H := H) a).cuts
  refine ⟨R.len, fun i d e => ?_, fun i d e => ?_, fun i d e => ?_, R.dis, R.iod, R.fr, fun b h => R.ofr b (List.mem_filter.mp h).1, fun b h => R.odom b (List.mem_filter.mp h).1, fun b h => ?_, R.sub⟩
  · obtain ⟨v, h1, h2⟩ := R.val i d e
    exact ⟨v, h1, h2.mono k⟩
  · obtain ⟨b, h1, h2, h3, h4⟩ := R.own i d e
    have hb : b ≠ a := fun z => ap i d e (z ▸ h1)
    exact ⟨b, h1, List.mem_filter.mpr ⟨h2, by simpa using hb⟩, h3, h4.mono (fun _ q => q) k⟩
  · obtain ⟨b, h1, h2, h3⟩ := R.io i d e
    exact ⟨b, h1, h2, h3.mono (fun _ q => q) k⟩
  · have hb : b ≠ a := fun z => ha (z ▸ h)
    exact List.mem_filter.mpr ⟨R.exs b h, by simpa using hb⟩

/-- the answer of an expression: a known value; an object of one's own -/
def RepR (P : Pm) (O : List Addr) (ρ : Sts) (σ : St) (H : Hp) (v : V) : Slot → Prop
  | .val d => Rep P.G (cut H O) v d
  | .own d => ∃ a, v = .ref a ∧ a ∈ O ∧ a ∉ P.ex ∧ Apart ρ σ a ∧ OwnAt P.G H O a d
  | _ => False
theorem RepR.rel (R : Rel P O ρ σ H) {v : V} {s : Slot} (h : RepR P O ρ σ H v s) : ∃ O', Rel P O' ρ σ H ∧ Ext O H O' H ∧ Rep P.G (cut H O') v s.d := by
  cases s with
  | val d => exact ⟨O, R, .refl, h⟩
  | own d =>
    obtain ⟨a, rfl, h1, h2, h3, h4⟩ := h
    refine ⟨_, R.release h2 h3, ext_drop a, h4.rep (ext_drop (O := O) (H := H) a).cuts fun o e => cut_some.mpr ⟨?_, e⟩⟩
    simp
  | emp => exact h.elim
  | io d => exact h.elim
/-- an own name is let known -/
theorem Rel.free (R : Rel P O ρ σ H) {i : Nat} {d : D} (hi : ρ[i]? = some (.own d)) : ∃ O' v, Rel P O' (ρ.set i (.val d)) σ H ∧ Ext O H O' H ∧ σ[i]? = some (some v) ∧ Rep P.G (cut H O') v d := by
  obtain ⟨a, h1, h2, h3, h4⟩ := R.own i d hi
  have hl : i < ρ.length := (List.getElem?_eq_some_iff.mp hi).1
  have R1 : Rel P O (ρ.set i .emp) σ H := by
    refine ⟨by simpa using R.len, fun j e q => ?_, fun j e q => ?_, fun j e q => ?_, fun j l b s t q1 q2 => ?_, R.iod, R.fr, R.ofr, R.odom, R.exs, R.sub⟩
    · by_cases hj : i = j
      · subst hj; rw [List.getElem?_set_self hl] at q; cases q
      · rw [List.getElem?_set_ne hj] at q; exact R.val j e q
    · by_cases hj : i = j
      · subst hj; rw [List.getElem?_set_self hl] at q; cases q
      · rw [List.getElem?_set_ne hj] at q; exact R.own j e q
    · by_cases hj : i = j
      · subst hj; rw [List.getElem?_set_self hl] at q; cases q
      · rw [List.getElem?_set_ne hj] at q; exact R.io j e q
    · have z1 : i ≠ j := fun hj => by subst hj; rw [List.getElem?_set_self hl] at q1; cases q1
      have z2 : i ≠ l := fun hj => by subst hj; rw [List.getElem?_set_self hl] at q2; cases q2
      rw [List.getElem?_set_ne z1] at q1
      rw [List.getElem?_set_ne z2] at q2
      exact R.dis j l b s t q1 q2
  have ap : Apart (ρ.set i .emp) σ a := fun j e q z => by
    have z1 : i ≠ j := fun hj => by subst hj; rw [List.getElem?_set_self hl] at q; cases q
    rw [List.getElem?_set_ne z1] at q
    exact z1 (R.dis i j a d e hi q h1 z)
  have R2 := R1.release h3 ap
  have rp : Rep P.G (cut H (O.filter (· ≠ a))) (.ref a) d := h4.rep (ext_drop (O := O) (H := H) a).cuts fun o e => cut_some.mpr ⟨by simp, e⟩
  refine ⟨_, .ref a, ?_, ext_drop a, h1, rp⟩
  refine ⟨by simpa using R.len, fun j e q => ?_, fun j e q => ?_, fun j e q => ?_, fun j l b s t q1 q2 => ?_, R2.iod, R2.fr, R2.ofr, R2.odom, R2.exs, R2.sub⟩
  · by_cases hj : i = j
    · subst hj; rw [List.getElem?_set_self hl] at q; cases q; exact ⟨_, h1, rp⟩
    · rw [List.getElem?_set_ne hj] at q; exact R2.val j e (by rw [List.getElem?_set_ne hj]; exact q)
  · by_cases hj : i = j
    · subst hj; rw [List.getElem?_set_self hl] at q; cases q
    · rw [List.getElem?_set_ne hj] at q; exact R2.own j e (by rw [List.getElem?_set_ne hj]; exact q)
  · by_cases hj : i = j
    · subst hj; rw [List.getElem?_set_self hl] at q; cases q
    · rw [List.getElem?_set_ne hj] at q; exact R2.io j e (by rw [List.getElem?_set_ne hj]; exact q)
  · have z1 : i ≠ j := fun hj => by subst hj; rw [List.getElem?_set_self hl] at q1; cases q1
    have z2 : i ≠ l := fun hj => by subst hj; rw [List.getElem?_set_self hl] at q2; cases q2
    rw [List.getElem?_set_ne z1] at q1
    rw [List.getElem?_set_ne z2] at q2
    exact R.dis j l b s t q1 q2

/-- a name is stored: a known value -/
theorem Rel.setV (R : Rel P O ρ σ H) {i : Nat} {v : V} {d : D} (hi : i < ρ.length) (r : Rep P.G (cut H O) v d) : Rel P O (ρ.set i (.val d)) (σ.set i (some v)) H := by
  have hs : i < σ.length := by rw [R.len]; exact hi
  refine ⟨by simpa using R.len, fun j e q => ?_, fun j e q => ?_, fun j e q => ?_, fun j l b s t q1 q2 q3 q4 => ?_, R.iod, R.fr, R.ofr, R.odom, R.exs, R.sub⟩
  · by_cases hj : i = j
    · subst hj; rw [List.getElem?_set_self hi] at q; cases q; exact ⟨v, List.getElem?_set_self hs, r⟩
    · rw [List.getElem?_set_ne hj] at q ⊢; exact R.val j e q
  · by_cases hj : i = j
    · subst hj; rw [List.getElem?_set_self hi] at q; cases q
    · rw [List.getElem?_set_ne hj] at q ⊢; exact R.own j e q
  · by_cases hj : i = j
    · subst hj; rw [List.getElem?_set_self hi] at q; cases q
    · rw [List.getElem?_set_ne hj] at q ⊢; exact R.io j e q
  · have z1 : i ≠ j := fun hj => by subst hj; rw [List.getElem?_set_self hi] at q1; cases q1
    have z2 : i ≠ l := fun hj => by subst hj; rw [List.getElem?_set_self hi] at q2; cases q2
    rw [List.getElem?_set_ne z1] at q1 q3
    rw [List.getElem?_set_ne z2] at q2 q4
    exact R.dis j l b s t q1 q2 q3 q4
/-- a name is stored: an object of one's own -/
theorem Rel.setO (R : Rel P O ρ σ H) {i : Nat} {a : Addr} {d : D} (hi : i < ρ.length) (h1 : a ∈ O) (h2 : a ∉ P.ex) (ap : Apart ρ σ a) (r : OwnAt P.G H O a d) : Rel P O (ρ.set i (.own d)) (σ.set i (some (.ref a))) H := by
  have hs : i < σ.length := by rw [R.len]; exact hi
  refine ⟨by simpa using R.len, fun j e q => ?_, fun j e q => ?_, fun j e q => ?_, fun j l b s t q1 q2 q3 q4 => ?_, R.iod, R.fr, R.ofr, R.odom, R.exs, R.sub⟩
  · by_cases hj : i = j
    · subst hj; rw [List.getElem?_set_self hi] at q; cases q
    · rw [List.getElem?_set_ne hj] at q ⊢; exact R.val j e q
  · by_cases hj : i = j
    · subst hj; rw [List.getElem?_set_self hi] at q; cases q; exact ⟨a, List.getElem?_set_self hs, h1, h2, r⟩
    · rw [List.getElem?_set_ne hj] at q ⊢; exact R.own j e q
  · by_cases hj : i = j
    · subst hj; rw [List.getElem?_set_self hi] at q; cases q
    · rw [List.getElem?_set_ne hj] at q ⊢; exact R.io j e q
  · by_cases z1 : i = j
    · subst z1
      rw [List.getElem?_set_self hs] at q3; cases q3
      by_cases z2 : i = l
      · exact z2
      · rw [List.getElem?_set_ne z2] at q2 q4
        exact (ap l t q2 q4).elim
    · rw [List.getElem?_set_ne z1] at q1 q3
      by_cases z2 : i = l
      · subst z2
        rw [List.getElem?_set_self hs] at q4; cases q4
        exact (ap j s q1 q3).elim
      · rw [List.getElem?_set_ne z2] at q2 q4
        exact R.dis j l b s t q1 q2 q3 q4
theorem cut_in {a : Addr} {o : HO} (h : a ∈ O) : cut (upd H a o) O = cut H O := by
  funext b
  unfold cut
  by_cases hb : b ∈ O
  · simp [hb]
  · have : b ≠ a := fun z => hb (z ▸ h)
    simp [hb, upd_ne this]
/-- the object of a changeable name -/
theorem Rel.mu (R : Rel P O ρ σ H) {i : Nat} {d : D} (hi : (ρ[i]?).bind Slot.mu? = some d) : ∃ a, σ[i]? = some (some (.ref a)) ∧ a ∈ O ∧ OwnAt P.G H O a d ∧ (a ∈ P.ad ∨ a ∉ P.ex) := by
  cases e : ρ[i]? with
  | none => rw [e] at hi; cases hi
  | some s =>
    rw [e] at hi
    cases s with
    | own d' => cases hi; obtain ⟨a, h1, h2, h3, h4⟩ := R.own i _ e; exact ⟨a, h1, h2, h4, .inr h3⟩
    | io d' => cases hi; obtain ⟨a, h1, h2, h4⟩ := R.io i _ e; exact ⟨a, h1, R.ios a (List.mem_map.mpr ⟨_, h2, rfl⟩), h4, .inl (List.mem_map.mpr ⟨_, h2, rfl⟩)⟩
    | emp => cases hi
    | val _ => cases hi
/-- two changeable names, two objects -/
theorem Rel.muNe (R : Rel P O ρ σ H) {i j : Nat} {a : Addr} (hi : ((ρ[i]?).bind Slot.mu?).isSome = true) (hj : ((ρ[j]?).bind Slot.mu?).isSome = true) (h1 : σ[i]? = some (some (V.ref a))) (h2 : σ[j]? = some (some (V.ref a))) : i = j := by
  cases e : ρ[i]? with
  | none => rw [e] at hi; cases hi
  | some s =>
    cases f : ρ[j]? with
    | none => rw [f] at hj; cases hj
    | some t =>
      rw [e] at hi; rw [f] at hj
      cases s with
      | emp => cases hi
      | val _ => cases hi
      | own d =>
        cases t with
        | emp => cases hj
        | val _ => cases hj
        | own d' => exact R.dis i j a d d' e f h1 h2
        | io d' =>
          obtain ⟨b, g1, _, g3, _⟩ := R.own i d e
          obtain ⟨c, k1, k2, _⟩ := R.io j d' f
          rw [h1] at g1; rw [h2] at k1; cases g1; cases k1
          exact (g3 (R.sub _ (List.mem_map.mpr ⟨_, k2, rfl⟩))).elim
      | io d =>
        cases t with
        | emp => cases hj
        | val _ => cases hj
        | own d' =>
          obtain ⟨b, g1, _, g3, _⟩ := R.own j d' f
          obtain ⟨c, k1, k2, _⟩ := R.io i d e
          rw [h2] at g1; rw [h1] at k1; cases g1; cases k1
          exact (g3 (R.sub _ (List.mem_map.mpr ⟨_, k2, rfl⟩))).elim
        | io d' =>
          obtain ⟨b, g1, g2, _⟩ := R.io i d e
          obtain ⟨c, k1, k2, _⟩ := R.io j d' f
          rw [h1] at g1; rw [h2] at k1; cases g1; cases k1
          exact congrArg Prod.fst (R.iod _ g2 _ k2 rfl)
/-- it is changed -/
theorem Rel.change (R : Rel P O ρ σ H) {i : Nat} {d d' : D} {a : Addr} {o : HO} (hi : (ρ[i]?).bind Slot.mu? = some d) (ha : σ[i]? = some (some (.ref a))) (m : Mut (some o)) (r : OwnAt P.G (upd H a o) O a d') : Rel P O (putE ρ i d') σ (upd H a o) := by
  obtain ⟨a', h1, h2, h3, h4⟩ := R.mu hi
  rw [ha] at h1; cases h1
  have hl : i < ρ.length := by
    cases e : ρ[i]? with
    | none => rw [e] at hi; cases hi
    | some s => exact (List.getElem?_eq_some_iff.mp e).1
  obtain ⟨s, hs⟩ : ∃ s, ρ[i]? = some s := ⟨_, List.getElem?_eq_getElem hl⟩
  have hg : ρ.getD i .emp = s := by rw [List.getD_eq_getElem?_getD, hs]; rfl
  have ck := cut_in (H := H) (O := O) (o := o) h2
  have ot : ∀ b, b ≠ a → ∀ e, OwnAt P.G H O b e → OwnAt P.G (upd H a o) O b e := fun b hb e q => q.mono (fun x z => by rw [upd_ne hb]; exact z) (fun b x z => by rw [ck]; exact z)
  have isM : ((ρ[i]?).bind Slot.mu?).isSome = true := by rw [hi]; rfl
  have keepO : ∀ (j : Nat) (e : Slot), i ≠ j → (putE ρ i d')[j]? = some e → ρ[j]? = some e := fun j e hj q => by unfold putE at q; rw [List.getElem?_set_ne hj] at q; exact q
  have atI' : (putE ρ i d')[i]? = some (s.put d') := by unfold putE; rw [List.getElem?_set_self hl, hg]
  refine ⟨by unfold putE; simpa using R.len, fun j e q => ?_, fun j e q => ?_, fun j e q => ?_, fun j l b u t q1 q2 q3 q4 => ?_, R.iod, fun b x z1 z2 => ?_, R.ofr, fun b z => ?_, R.exs, R.sub⟩
  · by_cases hj : i = j
    · subst hj
      rw [atI'] at q
      rw [hs] at hi
      cases s with
      | emp => cases hi
      | val _ => cases hi
      | own _ => cases q
      | io _ => cases q
    · obtain ⟨v, g1, g2⟩ := R.val j e (keepO j _ hj q)
      exact ⟨v, g1, by rw [ck]; exact g2⟩
  · by_cases hj : i = j
    · subst hj
      rw [atI'] at q
      cases s with
      | emp => cases q
      | val _ => cases q
      | io _ => cases q
      | own f =>
        cases q
        obtain ⟨b, g1, g2, g3, _⟩ := R.own i f hs
        rw [ha] at g1; cases g1
        exact ⟨_, ha, g2, g3, r⟩
    · obtain ⟨b, g1, g2, g3, g4⟩ := R.own j e (keepO j _ hj q)
      have hb : b ≠ a := fun z => hj (R.muNe isM (by rw [keepO j _ hj q]; rfl) ha (z ▸ g1))
      exact ⟨b, g1, g2, g3, ot b hb _ g4⟩
  · by_cases hj : i = j
    · subst hj
      rw [atI'] at q
      cases s with
      | emp => cases q
      | val _ => cases q
      | own _ => cases q
      | io f =>
        cases q
        obtain ⟨b, g1, g2, _⟩ := R.io i f hs
        rw [ha] at g1; cases g1
        exact ⟨_, ha, g2, r⟩
    · obtain ⟨b, g1, g2, g4⟩ := R.io j e (keepO j _ hj q)
      have hb : b ≠ a := fun z => hj (R.muNe isM (by rw [keepO j _ hj q]; rfl) ha (z ▸ g1))
      exact ⟨b, g1, g2, ot b hb _ g4⟩
  · have own_of : ∀ (j : Nat) (u : D), (putE ρ i d')[j]? = some (.own u) → ∃ u', ρ[j]? = some (.own u') := fun j u q => by
      by_cases hj : i = j
      · subst hj
        rw [atI'] at q
        cases s with
        | emp => cases q
        | val _ => cases q
        | io _ => cases q
        | own f => exact ⟨f, hs⟩
      · exact ⟨u, keepO j _ hj q⟩
    obtain ⟨u', e1⟩ := own_of j u q1
    obtain ⟨t', e2⟩ := own_of l t q2
    exact R.dis j l b u' t' e1 e2 q3 q4
  · have hb : b ≠ a := fun z => by
      subst z
      rcases h4 with q | q
      · exact z1 q
      · rcases R.ofr _ h2 with q2 | q2
        · exact q q2
        · rw [q2] at z2; cases z2
    rw [upd_ne hb]
    exact R.fr b x z1 z2
  · by_cases hb : b = a
    · subst hb; exact ⟨o, upd_same, m⟩
    · obtain ⟨x, g1, g2⟩ := R.odom b z
      exact ⟨x, by rw [upd_ne hb]; exact g1, g2⟩
theorem ext_in {a : Addr} {o : HO} (h : a ∈ O) : Ext O H O (upd H a o) := fun b x h1 h2 => ⟨h1, by
  have hb : b ≠ a := fun z => h1 (by rw [z]; exact h)
  rw [upd_ne hb]; exact h2⟩
end DL
namespace DL
open PySem PySem.Spec PyProof.Rows L2

/-! ## defs that may look at what stands around (repr) -/
structure FnG (P : Program) (w : World) (K : PySem.W.Frag) (mg : Str → Option Value) (base : Heap) (k : Nat) (f : Addr) (n : Nat) (sp : Sp) : Prop where
  len : ∀ vs H Q E, sp vs H Q E → vs.length = n
  go : ∀ (A : Around) (outer : List PySem.Env) (s : Shared) (H : Hp) (us : List Value) (vs : List V) (Q : VK) (E : XK), A.guards = some [] → Room k A →
    Env0 P w K mg base A outer s H → Vals vs us → sp vs H Q E → codeAny (model P w) A (.call (.ref f) ⟨us, []⟩) (CR (L2.CX P w) outer P w H s Q E) s
theorem FnG.imp {P : Program} {w : World} {K : PySem.W.Frag} {mg : Str → Option Value} {base : Heap} {j k n : Nat} {f : Addr} {sp sp' : Sp} (F : FnG P w K mg base j f n sp) (hk : j ≤ k) (h : ∀ vs H Q E, sp' vs H Q E → sp vs H Q E) : FnG P w K mg base k f n sp' :=
  ⟨fun a b c d q => F.len a b c d (h a b c d q), fun A o s H us vs Q E g r e v q => F.go A o s H us vs Q E g (r.mono hk) e v (h _ _ _ _ q)⟩

/-- a def of the text keeps its promise, by its body -/
theorem fng_of {P : Program} {w : World} {K : PySem.W.Frag} {mg : Str → Option Value} {base : Heap} {x qual : Str} {st : Stmt} {f : Addr} {fd : FuncData} {N ps : List Str} {k : Nat} {sp : Sp}
    (F : Fun K x qual st f fd) (S : FnScope N ps (defScope st)) (hb : Binds K fd ps []) (len : ∀ vs H Q E, sp vs H Q E → vs.length = ps.length)
    (body : ∀ (cdv : Value) (A : Around) (outer : List PySem.Env) (s : Shared) (H : Hp) (vs : List V) (Q : VK) (E : XK), A.guards = some [] → Room k (A.deeper (envOfC qual (defScope st) s.heap.objs.size f cdv)) → sp vs H Q E →
      ∃ t, PSs (cxOf (L2.CX P w) P w K mg base N qual (defScope st) f cdv A outer s H E) (defBody st) t ∧ t { nx := fun _ H' => Q .non H', rt := Q } (start N vs) H) :
    FnG P w K mg base (k + 1) f ps.length sp := by
  obtain ⟨oc, od, kV, doc, pm, an, cdv, ct, osl, rfl, lk, hcd⟩ := F.ex
  refine ⟨len, fun A outer s H us vs Q E hg room e0 rv hsp => ?_⟩
  have hlen := len _ _ _ _ hsp
  have inS : K.In s.heap := e0.mod.kin.keeps fun b o e => (e0.bs b o e).1
  have noL : s.heap.NoLimit := e0.mod.nolimit.keeps fun b o e => (e0.bs b o e).1
  have bnd := hb s us inS (by rw [List.append_nil, ← rv.length]; exact hlen)
  rw [List.append_nil] at bnd
  have kinds : ∀ y ∈ ps.zip us, (defScope st).names.lookup y.1 = some .local ∨ ((defScope st).names.lookup y.1 = some .cell ∧ ((cellsFrom (s.heap.objs.size + 1) (defScope st).names []).lookup y.1).isSome = true) := by
    rintro ⟨nm, vv⟩ hy
    cases S.par nm (List.of_mem_zip hy).1 with
    | inl q => exact .inl q
    | inr q => exact .inr ⟨q, PySem.W.cellsFrom_some _ _ _ (.inl q)⟩
  refine codeAny_call_function room.depth (inS _ _ lk) rfl S.co S.gen rfl (PySem.W.codeRec_of inS hcd) (bnd _ _ _ _ ?_)
  refine wpAny_newFunctionEnv_cells S.kind kinds fun env ee s1 ic => ?_
  subst ee
  refine ⟨noL.keeps ic.toInCall.keep, codeAny_func ?_⟩
  obtain ⟨t, ht, hq⟩ := body cdv A outer s H vs Q E hg (room.deeper _) hsp
  have I := inv_start (CX := L2.CX P w) (E := E) S room.hd e0 hlen rv ic
  refine wpAny_mono (ht.run [] s1 (start N vs) H _ I hq) (fun fl s' hs => ?_) fun _ _ hs => hs
  have stop : ∀ {σ' : L2.St} {H' : Hp} {v : V} {u : Value}, Inv (cxOf (L2.CX P w) P w K mg base N qual (defScope st) f cdv A outer s H E) [] σ' H' s' → RelV v u → Q v H' → CE outer P w H s Q u s' :=
    fun {σ' H' v u} J rr q => ⟨v, H', J.os, J.bare, J.base, J.hok, rr, q⟩
  match fl, hs with
  | .ret _, ⟨_, _, _, J, rr, q⟩ => exact stop J rr q
  | .next, ⟨_, _, J, q⟩ => exact stop (v := V.non) (u := Value.none) J rfl q
  | .brk, ⟨_, _, _, q⟩ => exact q.elim
  | .cont, ⟨_, _, _, q⟩ => exact q.elim

/-! ## arguments without a star -/
def nst : Expr → Bool
  | .Starred .. => false
  | _ => true
theorem starEach_nst {e : Expr} (h : nst e = true) (es : List Expr) (env : PySem.Env) : starEach (e :: es) env = (false, eval e env) :: starEach es env := by
  cases e <;> first | rfl | cases h
theorem plain_nst {pos : Pos} {env : PySem.Env} : ∀ {es : List Expr}, es.all nst = true → (backTo pos (starEach es env)).any (·.1) = false
  | [], _ => rfl
  | e :: es, h => by
    simp only [List.all_cons, Bool.and_eq_true] at h
    rw [starEach_nst h.1]
    show (false || (backTo pos (starEach es env)).any (·.1)) = false
    rw [plain_nst h.2]; rfl
section
variable {X : Cx} {k n : Nat} {f : Addr} {sp : Sp} {W : WX} {x : Str} {p pos : Pos} {es : List Expr} {t : TA}
theorem pa_consN {e : Expr} {te : TE} (h : nst e = true) (ha : PE X e te) (hr : PA X es t) : PA X (e :: es) (tCons te t) := pa_cons ha hr (starEach_nst h _ _)
theorem run_g {pins : List (Addr × Obj)} {σ : L2.St} {H : Hp} {s : Shared} {Q : VK} {us : List Value} {vs : List V} (F : FnG X.prog X.w X.K X.mg X.base k f n sp) (hg : X.A.guards = some []) (hr : Room k X.A) (tk : Takes X W)
    (I : Inv X pins σ H s) (rv : Vals vs us) (h : sp vs H Q (WE W σ)) : wpAny (model X.prog X.w) X.A (call (.ref f) us) (EP X pins σ Q) X.xe s := by
  refine wpAny_call (codeAny_mono (F.go X.A X.stack s H us vs Q (WE W σ) hg hr I.env0 rv h) fun r s' hq => ?_)
  match r, hq with
  | .error e, hq => exact passAt tk σ pins H s e s' I hq
  | .ok (.ret u), hq => exact I.after hq
  | .ok .next, hq => exact hq.elim
  | .ok .brk, hq => exact hq.elim
  | .ok .cont, hq => exact hq.elim
def tCallG (sp : Sp) (W : WX) (t : TA) : TE := fun σ H Q => t σ H fun vs H1 => sp vs H1 Q (WE W σ)
theorem pe_callG {e : Expr} (F : FnG X.prog X.w X.K X.mg X.base k f n sp) (hgd : X.A.guards = some []) (hr : Room k X.A) (hg : Gl X x) (hm : X.mg x = some (.ref f)) (hk : PySem.W.keepIn X.K (.ref f) = true) (tk : Takes X W)
    (hn : nst e = true ∧ es.all nst = true) (ha : PA X (e :: es) t) (hd : (x == ("__debug__" : Str)) = false) : PE X (.Call (.Name x p) (e :: es) [] pos) (tCallG sp W t) := by
  refine ⟨fun pins s σ H Q I h => wpAny_Call_Name_kw (ld_glob I hg hm ?_ hd)⟩
  refine PySem.W.callWith_K (h₀ := X.base) I.ok.mod.kin hk (thn (ha.run pos pins s σ H _ I h) fun us s1 ⟨vs, H1, I1, rv, z⟩ => ⟨I1.kIn, ?_⟩) (starEach_nst hn.1 _ _) (plain_nst hn.2)
  exact run_g F hgd hr tk I1 rv z
theorem pe_callG0 (F : FnG X.prog X.w X.K X.mg X.base k f n sp) (hgd : X.A.guards = some []) (hr : Room k X.A) (hg : Gl X x) (hm : X.mg x = some (.ref f)) (hk : PySem.W.keepIn X.K (.ref f) = true) (tk : Takes X W)
    (hd : (x == ("__debug__" : Str)) = false) : PE X (.Call (.Name x p) [] [] pos) (tCallG sp W tNil) :=
  ⟨fun pins s σ H Q I h => wpAny_Call_Name_kw (ld_glob I hg hm (PySem.W.callWith_K0 I.kIn hk (run_g F hgd hr tk I .nil h)) hd)⟩
end
end DL
namespace DL
open PySem L2

/-! ## readings by data -/
/-- an error of the class c with its field x, in the air -/
def ExcAt (G : Gx) (O : List Addr) (H : Hp) (c : Str) (x : D) (cv : Value) (d : Option Addr) : Prop :=
  ∃ (C : Addr) (fl : Str) (dd : Addr) (v : V), G.ca c = some (C, fl) ∧ cv = .ref C ∧ d = some dd ∧ H dd = some (.xd [(fl, v)]) ∧ Rep G (cut H O) v x
section
variable (P : Pm) (W : WX)
def Aft {α : Type} (σ : St) (O : List Addr) (H : Hp) (r : R Sts (α × Sts)) (k : α → Sts → List Addr → Hp → Prop) : Prop := match r with
  | .ok p => ∀ O' H', Rel P O' p.2 σ H' → Ext O H O' H' → k p.1 p.2 O' H'
  | .exc c x ρ' => ∀ O' H' cv d, Rel P O' ρ' σ H' → Ext O H O' H' → ExcAt P.G O' H' c x cv d → W cv d σ H'
  | .bad => False
/-- an argument: a known value, or a changeable name that is lent -/
def ArgAt (σ : St) (O : List Addr) (H : Hp) (v : V) : Arg → Prop
  | .dat d => Rep P.G (cut H O) v d
  | .ref i => σ[i]? = some (some v)
inductive ArgsAt (σ : St) (O : List Addr) (H : Hp) : List V → List Arg → Prop
  | nil : ArgsAt σ O H [] []
  | cons {v : V} {vs : List V} {a : Arg} {as : List Arg} : ArgAt P σ O H v a → ArgsAt σ O H vs as → ArgsAt σ O H (v :: vs) (a :: as)
def tE (Φ : Nat → Fn) (e : E) : TE := fun σ H Q => ∃ O ρ, Rel P O ρ σ H ∧ Aft P W σ O H (ev Φ e ρ) fun s ρ' O' H' => ∀ v, RepR P O' ρ' σ H' v s → Q v H'
def tV (r : Sts → R Sts (D × Sts)) : TE := fun σ H Q => ∃ O ρ, Rel P O ρ σ H ∧ Aft P W σ O H (r ρ) fun d ρ' O' H' => ∀ v, Rep P.G (cut H' O') v d → Q v H'
def tB (r : Sts → R Sts (Bool × Sts)) : TT := fun σ H Q => ∃ O ρ, Rel P O ρ σ H ∧ Aft P W σ O H (r ρ) fun b ρ' O' H' => Q b H'
def tArg (r : Sts → R Sts (Arg × Sts)) : TE := fun σ H Q => ∃ O ρ, Rel P O ρ σ H ∧ Aft P W σ O H (r ρ) fun a ρ' O' H' => ∀ v, ArgAt P σ O' H' v a → Q v H'
def tArgs (r : Sts → R Sts (List Arg × Sts)) : TA := fun σ H Q => ∃ O ρ, Rel P O ρ σ H ∧ Aft P W σ O H (r ρ) fun as ρ' O' H' => ∀ vs, ArgsAt P σ O' H' vs as → Q vs H'
def tVs (r : Sts → R Sts (List D × Sts)) : TA := fun σ H Q => ∃ O ρ, Rel P O ρ σ H ∧ Aft P W σ O H (r ρ) fun ds ρ' O' H' => ∀ vs, Reps P.G (cut H' O') vs ds → Q vs H'
end
section
variable {P : Pm} {W : WX} {σ : St} {O O1 O' : List Addr} {H H1 H' : Hp} {α β : Type} {ρ : Sts} {Φ : Nat → Fn}
theorem Aft.mono {r : R Sts (α × Sts)} {k : α → Sts → List Addr → Hp → Prop} (h : Aft P W σ O H r k) (e : Ext O H O1 H1) : Aft P W σ O1 H1 r k := by
  cases r with
  | ok p => exact fun O' H' R x => h O' H' R (e.trans x)
  | exc c x ρ' => exact fun O' H' cv d R z => h O' H' cv d R (e.trans z)
  | bad => exact h
theorem Aft.imp {r : R Sts (α × Sts)} {k k' : α → Sts → List Addr → Hp → Prop} (h : Aft P W σ O H r k) (f : ∀ a ρ' O' H', Rel P O' ρ' σ H' → Ext O H O' H' → k a ρ' O' H' → k' a ρ' O' H') : Aft P W σ O H r k' := by
  cases r with
  | ok p => exact fun O' H' R x => f _ _ _ _ R x (h O' H' R x)
  | exc c x ρ' => exact h
  | bad => exact h
theorem Aft.bind {r : R Sts (α × Sts)} {f : α × Sts → R Sts (β × Sts)} {k : β → Sts → List Addr → Hp → Prop} (h : Aft P W σ O H (r.bind f) k) : Aft P W σ O H r fun a ρ1 O1 H1 => Aft P W σ O1 H1 (f (a, ρ1)) k := by
  cases r with
  | ok p => exact fun O' H' R x => Aft.mono h x
  | exc c x ρ' => exact h
  | bad => exact h
theorem Aft.map {r : R Sts (α × Sts)} {f : α × Sts → β × Sts} {k : β → Sts → List Addr → Hp → Prop} (hf : ∀ p, (f p).2 = p.2) (h : Aft P W σ O H (r.map f) k) : Aft P W σ O H r fun a ρ1 O1 H1 => k (f (a, ρ1)).1 ρ1 O1 H1 := by
  cases r with
  | ok p =>
    intro O' H' R x
    have q := h O' H' (by rw [hf]; exact R) x
    rw [hf] at q
    exact q
  | exc c x ρ' => exact h
  | bad => exact h
/-- at once -/
theorem Aft.now {a : α} {k : α → Sts → List Addr → Hp → Prop} (h : Aft P W σ O H (.ok (a, ρ)) k) (R : Rel P O ρ σ H) : k a ρ O H := h O H R .refl

theorem Aft.rel {r : R Sts (Slot × Sts)} {Q : VK} (h : Aft P W σ O H (rel r) fun d ρ' O' H' => ∀ v, Rep P.G (cut H' O') v d → Q v H') : Aft P W σ O H r fun s ρ' O' H' => ∀ v, RepR P O' ρ' σ H' v s → Q v H' := by
  cases r with
  | ok p =>
    intro O' H' R x v rv
    obtain ⟨O2, R2, e2, r2⟩ := rv.rel R
    exact h O2 H' R2 (x.trans e2) v r2
  | exc c x ρ' => exact h
  | bad => exact h
theorem _root_.L2.PE.weak {X : Cx} {c : Expr} {t t' : TE} (h : PE X c t) (k : ∀ σ H Q, t' σ H Q → t σ H Q) : PE X c t' := ⟨fun pins s σ H Q I z => h.run pins s σ H Q I (k σ H Q z)⟩
theorem _root_.L2.PT.weak {X : Cx} {c : Expr} {t t' : TT} (h : PT X c t) (k : ∀ σ H Q, t' σ H Q → t σ H Q) : PT X c t' := ⟨fun pins s σ H Q I z => h.run pins s σ H Q I (k σ H Q z)⟩
theorem _root_.L2.PA.weak {X : Cx} {c : List Expr} {t t' : TA} (h : PA X c t) (k : ∀ σ H Q, t' σ H Q → t σ H Q) : PA X c t' := ⟨fun pos pins s σ H Q I z => h.run pos pins s σ H Q I (k σ H Q z)⟩
theorem _root_.L2.PS.weak {X : Cx} {c : Stmt} {t t' : TS} (h : PS X c t) (k : ∀ D σ H, t' D σ H → t D σ H) : PS X c t' := ⟨fun pins s σ H D I z => h.run pins s σ H D I (k D σ H z)⟩
theorem _root_.L2.PSs.weak {X : Cx} {c : List Stmt} {t t' : TS} (h : PSs X c t) (k : ∀ D σ H, t' D σ H → t D σ H) : PSs X c t' := ⟨fun pins s σ H D I z => h.run pins s σ H D I (k D σ H z)⟩
theorem tV_of {X : Cx} {c : Expr} {e : E} (h : PE X c (tE P W Φ e)) : PE X c (tV P W fun ρ => DL.rel (ev Φ e ρ)) := h.weak fun σ H Q ⟨O, ρ, R, a⟩ => ⟨O, ρ, R, a.rel⟩

/-! ### operands -/
/-- a known value, or an object of one's own -/
def RepX (G : Gx) (O : List Addr) (H : Hp) (v : V) (d : D) : Prop := Rep G (cut H O) v d ∨ ∃ a, v = .ref a ∧ a ∈ O ∧ OwnAt G H O a d
inductive RepXs (G : Gx) (O : List Addr) (H : Hp) : List V → List D → Prop
  | nil : RepXs G O H [] []
  | cons {v : V} {vs : List V} {d : D} {ds : List D} : RepX G O H v d → RepXs G O H vs ds → RepXs G O H (v :: vs) (d :: ds)
/-- what an operator gives: a known value (all stays), a new object -/
def Res (G : Gx) (O : List Addr) (H : Hp) (v : V) (H' : Hp) : Slot → Prop
  | .val d => Same H H' ∧ Rep G (cut H' O) v d
  | .own d => ∃ p o, v = .ref p ∧ H p = none ∧ H' = upd H p o ∧ Mut (some o) ∧ OwnAt G H' (p :: O) p d
  | _ => False
theorem Res.post {v : V} {s : Slot} (R : Rel P O ρ σ H) (h : Res P.G O H v H' s) : ∃ O', Rel P O' ρ σ H' ∧ Ext O H O' H' ∧ RepR P O' ρ σ H' v s := by
  cases s with
  | val d => exact ⟨O, R.same h.1, .same h.1, h.2⟩
  | own d =>
    obtain ⟨p, o, rfl, hp, rfl, m, q⟩ := h
    obtain ⟨f1, f2, f3⟩ := R.fresh hp
    refine ⟨p :: O, R.new hp m, ext_new hp, p, rfl, List.mem_cons_self, f2, fun i d' e z => ?_, q⟩
    obtain ⟨a, h1, h2, _⟩ := R.own i d' e
    rw [z] at h1; cases h1
    exact f1 h2
  | emp => exact h.elim
  | io d => exact h.elim
/-- an operator by data -/
def rD (G : Gx) (g : List D → Option Slot) : List V → Hp → VK → Prop := fun vs H Q => ∃ O ds s, RepXs G O H vs ds ∧ (∀ a ∈ O, ∃ o, H a = some o ∧ Mut (some o)) ∧ g ds = some s ∧ ∀ v H', Res G O H v H' s → Q v H'
theorem args_get (R : Rel P O ρ σ H) : ∀ {as : List Arg} {vs : List V} {ds : List D}, ArgsAt P σ O H vs as → gets ρ as = some ds → RepXs P.G O H vs ds
  | [], _, _, .nil, h => by cases h; exact .nil
  | a :: as, _, ds, .cons h1 h2, h => by
    unfold gets at h
    split at h
    · rename_i d ds' e1 e2
      cases h
      refine .cons ?_ (args_get R h2 e2)
      cases a with
      | dat d' => cases e1; exact .inl h1
      | ref i =>
        obtain ⟨b, k1, k2, k3, _⟩ := R.mu (i := i) e1
        have h1' : σ[i]? = some (some _) := h1
        rw [k1] at h1'
        cases h1'
        exact .inr ⟨b, rfl, k2, k3⟩
    · cases h
theorem op_args {o : Op} {es : List E} {Q : VK} (h : tE P W Φ (.op o es) σ H Q) : tArgs P W (fun ρ => evBs Φ es ρ) σ H fun vs H1 => rD P.G (opf o) vs H1 Q := by
  obtain ⟨O, ρ, R, a⟩ := h
  refine ⟨O, ρ, R, ?_⟩
  have a2 : Aft P W σ O H ((evBs Φ es ρ).bind (opR o)) fun s ρ' O' H' => ∀ v, RepR P O' ρ' σ H' v s → Q v H' := a
  refine a2.bind.imp fun as ρ1 O1 H1 R1 _ q vs hv => ?_
  unfold opR at q
  split at q
  · rename_i ds hds
    cases hs : opf o ds with
    | none => rw [hs] at q; exact q.elim
    | some s =>
      rw [hs] at q
      refine ⟨O1, ds, s, args_get R1 hv hds, R1.odom, hs, fun v H' hr => ?_⟩
      obtain ⟨O2, R2, e2, r2⟩ := hr.post R1
      exact q O2 H' R2 e2 v r2
  · exact q.elim
theorem args_cons {e : E} {es : List E} {Q : List V → Hp → Prop} (h : tArgs P W (fun ρ => evBs Φ (e :: es) ρ) σ H Q) :
    tArg P W (fun ρ => bw e ρ (rel (ev Φ e ρ))) σ H fun x H1 => tArgs P W (fun ρ => evBs Φ es ρ) σ H1 fun xs H2 => Q (x :: xs) H2 := by
  obtain ⟨O, ρ, R, a⟩ := h
  refine ⟨O, ρ, R, ?_⟩
  have a2 : Aft P W σ O H ((bw e ρ (rel (ev Φ e ρ))).bind fun p => (evBs Φ es p.2).map fun q => (p.1 :: q.1, q.2)) fun as ρ' O' H' => ∀ vs, ArgsAt P σ O' H' vs as → Q vs H' := a
  refine a2.bind.imp fun x ρ1 O1 H1 R1 e1 q v hv => ⟨O1, ρ1, R1, ?_⟩
  refine (Aft.map (f := fun q : List Arg × Sts => (x :: q.1, q.2)) (fun _ => rfl) q).imp fun xs ρ2 O2 H2 R2 e2 q2 vs hvs => q2 _ (.cons ?_ hvs)
  cases x with
  | dat d => exact e2.rep hv
  | ref i => exact hv
theorem args_nil {Q : List V → Hp → Prop} (h : tArgs P W (fun ρ => evBs Φ [] ρ) σ H Q) : Q [] H := by
  obtain ⟨O, ρ, R, a⟩ := h
  exact Aft.now a R [] .nil
/-- calls' arguments -/
theorem cargs_cons {m : List Bool} {e : E} {es : List E} {Q : List V → Hp → Prop} (h : tArgs P W (fun ρ => evCs Φ m (e :: es) ρ) σ H Q) :
    tArg P W (fun ρ => cw (m.headD false) e ρ (rel (ev Φ e ρ))) σ H fun x H1 => tArgs P W (fun ρ => evCs Φ m.tail es ρ) σ H1 fun xs H2 => Q (x :: xs) H2 := by
  obtain ⟨O, ρ, R, a⟩ := h
  refine ⟨O, ρ, R, ?_⟩
  have a2 : Aft P W σ O H ((cw (m.headD false) e ρ (rel (ev Φ e ρ))).bind fun p => (evCs Φ m.tail es p.2).map fun q => (p.1 :: q.1, q.2)) fun as ρ' O' H' => ∀ vs, ArgsAt P σ O' H' vs as → Q vs H' := a
  refine a2.bind.imp fun x ρ1 O1 H1 R1 e1 q v hv => ⟨O1, ρ1, R1, ?_⟩
  refine (Aft.map (f := fun q : List Arg × Sts => (x :: q.1, q.2)) (fun _ => rfl) q).imp fun xs ρ2 O2 H2 R2 e2 q2 vs hvs => q2 _ (.cons ?_ hvs)
  cases x with
  | dat d => exact e2.rep hv
  | ref i => exact hv
theorem cargs_nil {m : List Bool} {Q : List V → Hp → Prop} (h : tArgs P W (fun ρ => evCs Φ m [] ρ) σ H Q) : Q [] H := by
  obtain ⟨O, ρ, R, a⟩ := h
  have a2 : Aft P W σ O H (.ok ([], ρ)) fun as ρ' O' H' => ∀ vs, ArgsAt P σ O' H' vs as → Q vs H' := by
    cases m <;> exact a
  exact Aft.now a2 R [] .nil
/-- known values -/
theorem vs_cons {e : E} {es : List E} {Q : List V → Hp → Prop} (h : tVs P W (fun ρ => evVs Φ (e :: es) ρ) σ H Q) :
    tV P W (fun ρ => rel (ev Φ e ρ)) σ H fun x H1 => tVs P W (fun ρ => evVs Φ es ρ) σ H1 fun xs H2 => Q (x :: xs) H2 := by
  obtain ⟨O, ρ, R, a⟩ := h
  refine ⟨O, ρ, R, ?_⟩
  have a2 : Aft P W σ O H ((rel (ev Φ e ρ)).bind fun p => (evVs Φ es p.2).map fun q => (p.1 :: q.1, q.2)) fun as ρ' O' H' => ∀ vs, Reps P.G (cut H' O') vs as → Q vs H' := a
  refine a2.bind.imp fun x ρ1 O1 H1 R1 e1 q v hv => ⟨O1, ρ1, R1, ?_⟩
  exact (Aft.map (f := fun q : List D × Sts => (x :: q.1, q.2)) (fun _ => rfl) q).imp fun xs ρ2 O2 H2 R2 e2 q2 vs hvs => q2 _ (.cons (e2.rep hv) hvs)
theorem vs_nil {Q : List V → Hp → Prop} (h : tVs P W (fun ρ => evVs Φ [] ρ) σ H Q) : Q [] H := by
  obtain ⟨O, ρ, R, a⟩ := h
  exact Aft.now a R [] .nil
end
end DL
namespace DL
open PySem L2
section
variable {G : Gx} {O : List Addr} {H H' : Hp} {v : V}
theorem RepXs.one {vs : List V} {d : D} (h : RepXs G O H vs [d]) : ∃ v, vs = [v] ∧ RepX G O H v d := by
  cases h with
  | cons h r => cases r; exact ⟨_, rfl, h⟩
theorem RepXs.two {x y : V} {ds : List D} (h : RepXs G O H [x, y] ds) : ∃ dx dy, ds = [dx, dy] ∧ RepX G O H x dx ∧ RepX G O H y dy := by
  cases h with
  | cons h r => cases r with
    | cons h2 r => cases r; exact ⟨_, _, rfl, h, h2⟩
theorem RepX.int {i : Int} (h : RepX G O H v (.int i)) : v = .int i := by
  rcases h with h | ⟨_, _, _, h⟩
  · cases h; rfl
  · exact h.elim
theorem RepX.str {i : Str} (h : RepX G O H v (.str i)) : v = .str i := by
  rcases h with h | ⟨_, _, _, h⟩
  · cases h; rfl
  · exact h.elim
theorem RepX.bl {i : Bool} (h : RepX G O H v (.bl i)) : v = .bl i := by
  rcases h with h | ⟨_, _, _, h⟩
  · cases h; rfl
  · exact h.elim
theorem RepX.non (h : RepX G O H v .non) : v = .non := by
  rcases h with h | ⟨_, _, _, h⟩
  · cases h; rfl
  · exact h.elim
theorem RepX.lst {ds : List D} (h : RepX G O H v (.lst ds)) : ∃ a xs, v = .ref a ∧ H a = some (.lst xs) ∧ Reps G (cut H O) xs ds := by
  rcases h with h | ⟨a, rfl, _, xs, h, r⟩
  · cases h with
    | lst h r => exact ⟨_, _, rfl, cut_le h, r⟩
  · exact ⟨a, xs, rfl, h, r⟩
theorem SqT.full {K : PySem.W.Frag} {a : Addr} {xs : List V} (h : L2.SqT K (cut H O) a xs) : L2.SqT K H a xs := SqT.mono (fun _ _ h => cut_le h) h
theorem SqL.full {K : PySem.W.Frag} {a : Addr} {xs : List V} (h : L2.SqL K (cut H O) a xs) : L2.SqL K H a xs := SqL.mono (fun _ _ h => cut_le h) h
theorem RepX.tup {ds : List D} (h : RepX G O H v (.tup ds)) : ∃ a xs, v = .ref a ∧ L2.SqT G.K H a xs ∧ Reps G (cut H O) xs ds := by
  rcases h with h | ⟨_, _, _, h⟩
  · cases h with
    | tup h r => exact ⟨_, _, rfl, SqT.full h, r⟩
  · exact h.elim
theorem RepX.tupR {ds : List D} (h : RepX G O H v (.tup ds)) : Rep G (cut H O) v (.tup ds) := by
  rcases h with h | ⟨_, _, _, h⟩
  · exact h
  · exact h.elim
theorem RepX.rol {ds : List D} (h : RepX G O H v (.rol ds)) : ∃ a xs, v = .ref a ∧ L2.SqL G.K H a xs ∧ Reps G (cut H O) xs ds := by
  rcases h with h | ⟨_, _, _, h⟩
  · cases h with
    | rol h r => exact ⟨_, _, rfl, SqL.full h, r⟩
  · exact h.elim
theorem RepX.full {d : D} (h : RepX G O H v d) : Rep G H v d := by
  rcases h with h | ⟨a, rfl, _, h⟩
  · exact h.full
  · exact h.rep (fun _ _ e => cut_le e) fun _ e => e
theorem Res.vl {d : D} (h : Rep G (cut H O) v d) : Res G O H v H (.val d) := ⟨fun _ _ e => e, h⟩
theorem Res.nl {p : Addr} {xs : List V} {ds : List D} (hp : H p = none) (h : Reps G (cut H O) xs ds) : Res G O H (.ref p) (upd H p (.lst xs)) (.own (.lst ds)) :=
  ⟨p, _, rfl, hp, rfl, trivial, xs, upd_same, h.mono (cut_new hp)⟩
theorem Res.nt {p : Addr} {xs : List V} {ds : List D} (od : ∀ a ∈ O, ∃ o, H a = some o ∧ Mut (some o)) (hp : H p = none) (h : Reps G (cut H O) xs ds) : Res G O H (.ref p) (upd H p (.tup xs)) (.val (.tup ds)) := by
  have hO : p ∉ O := fun m => by
    obtain ⟨o, e, _⟩ := od p m
    rw [hp] at e; cases e
  have k : ∀ b o, cut H O b = some o → cut (upd H p (.tup xs)) O b = some o := (Ext.same (same_upd hp)).cuts
  exact ⟨same_upd hp, .tup (.of (cut_some.mpr ⟨hO, upd_same⟩)) (h.mono k)⟩
theorem reps_ints : ∀ {xs : List V} {ds : List D} {ns : List Int}, Reps G H xs ds → intsD ds = some ns → xs = ns.map V.int
  | _, _, _, .nil, h => by cases h; rfl
  | v :: vs, d :: ds, ns, .cons h r, e => by
    cases h with
    | int i =>
      simp only [intsD, Option.map_eq_some_iff] at e
      obtain ⟨ms, e1, rfl⟩ := e
      rw [reps_ints r e1, List.map_cons]
    | _ => cases e
theorem reps_bls : ∀ {xs : List V} {ds : List D} {ns : List Bool}, Reps G H xs ds → blsD ds = some ns → xs = ns.map V.bl
  | _, _, _, .nil, h => by cases h; rfl
  | v :: vs, d :: ds, ns, .cons h r, e => by
    cases h with
    | bl i =>
      simp only [blsD, Option.map_eq_some_iff] at e
      obtain ⟨ms, e1, rfl⟩ := e
      rw [reps_bls r e1, List.map_cons]
    | _ => cases e
mutual
theorem Rep.dp : ∀ {v : V} {d : D}, Rep G H v d → d.pure = true → Dp G.K H v d.py
  | _, _, .non, _ => .non
  | _, _, .bl b, _ => .bl b
  | _, _, .int i, _ => .int i
  | _, _, .str s, _ => .str s
  | _, _, .lst h r, e => by
    rw [D.pure] at e
    rw [D.py]; exact .lst (.of h) (Reps.dp r e)
  | _, _, .tup h r, e => by
    rw [D.pure] at e
    rw [D.py]; exact .tup h (Reps.dp r e)
  | _, _, .rol h r, e => by rw [D.pure] at e; cases e
  | _, _, .fn h, e => by rw [D.pure] at e; cases e
  | _, _, .ty n, e => by rw [D.pure] at e; cases e
theorem Reps.dp : ∀ {vs : List V} {ds : List D}, Reps G H vs ds → D.pures ds = true → DpAll G.K H vs (D.pys ds)
  | _, _, .nil, _ => by rw [D.pys]; exact .nil
  | _, _, .cons h r, e => by
    rw [D.pures, Bool.and_eq_true] at e
    rw [D.pys]; exact .cons (Rep.dp h e.1) (Reps.dp r e.2)
end
theorem okd_of {d : D} (h : d.okd = true) : d.pure = true ∧ SeqAt.shaped d.py = true := by
  unfold D.okd at h
  rwa [Bool.and_eq_true] at h
theorem any_pys (a : D) : ∀ xs : List D, (D.pys xs).any (fun z => PyData.eqv z a.py) = xs.any fun x => x.eqv a
  | [] => by rw [D.pys]; rfl
  | x :: xs => by rw [D.pys, List.any_cons, List.any_cons, any_pys a xs]; rfl
theorem reps_cut {xs : List V} {ds : List D} (h : Reps G H xs ds) (lo hi : Option Int) : Reps G H (L2.cutV xs lo hi) (cutD ds lo hi) := by
  unfold L2.cutV cutD
  rw [h.length]
  exact (h.drop _).take _
theorem rep_atI {xs : List V} {ds : List D} {i : Int} {d : D} (r : Reps G H xs ds) (h : atI ds i = some d) : ∃ v, atI xs i = some v ∧ Rep G H v d := by
  unfold atI at h ⊢
  rw [r.length]
  cases e : ixN ds.length i with
  | none => rw [e] at h; cases h
  | some j =>
    rw [e] at h
    obtain ⟨v, h1, h2⟩ := r.get (i := j) h
    exact ⟨v, h1, h2⟩
end

section
variable {X : Cx} {G : Gx}
/-- an operator of two by data -/
abbrev rD2 (G : Gx) (g : List D → Option Slot) : R2 := fun x y H Q => rD G g [x, y] H Q
theorem _root_.L2.OpR.wk {f : Value → Value → Sem Value} {r r' : R2} (h : OpR X f r) (k : ∀ x y H Q, r' x y H Q → r x y H Q) : OpR X f r' := fun pins s σ H x y v u Q I rx ry z => h pins s σ H x y v u Q I rx ry (k _ _ _ _ z)
theorem midI_log {j : Int} (h : midI j = true) : j.natAbs.log2 < 400 := PySem.Flt.log2_lt_of (by decide) (of_decide_eq_true h)
theorem mulOk_of {i j : Int} (h : mulOk i j = true) : IntMulOk i j := by
  unfold mulOk at h
  simp only [Bool.or_eq_true, Bool.and_eq_true] at h
  rcases h with h | ⟨h1, h2⟩
  · have h' : CMul i j := by
      unfold smallI at h
      simpa only [CMul, Bool.and_eq_true, decide_eq_true_eq] using h
    exact h'.ok
  · exact CMulW.ok (by have := midI_log h1; have := midI_log h2; unfold CMulW; omega)
theorem op_mulX {X : Cx} : OpR X (binaryOp .Mult) (rI (fun i j => mulOk i j = true) fun i j => .int (i * j)) := opI fun _ _ _ _ _ _ _ hc q => PyProof.Rows.mul_int q (mulOk_of hc)
theorem iop_mulX {X : Cx} : OpR X (inplaceOp .Mult) (rI (fun i j => mulOk i j = true) fun i j => .int (i * j)) := opI fun _ _ _ _ _ _ _ hc q => PyProof.Rows.imul_int q (mulOk_of hc)
theorem op_divX {X : Cx} : OpR X (binaryOp .FloorDiv) (rI (fun _ j => j ≠ 0 ∧ midI j = true) fun i j => .int (i.fdiv j)) := opI fun _ _ _ _ _ _ _ hc q => PyProof.Rows.floordiv_int hc.1 q (.inl (PyProof.noPylong_of_log2 (by have := midI_log hc.2; omega)))
theorem opr_bin {o : Operator} (hK : G.K = X.K) : OpR X (binaryOp o) (rD2 G (opf (.bin o))) := by
  intro pins s σ H x y v u Q I rx ry h
  obtain ⟨O, ds, sl, hr, od, hg, q⟩ := h
  obtain ⟨dx, dy, rfl, h1, h2⟩ := hr.two
  replace hg : binf o dx dy = some sl := hg
  have nl := fun (p : Addr) (xs : List V) (ds : List D) => Res.nl (G := G) (O := O) (H := H) (p := p) (xs := xs) (ds := ds)
  have hs : sizeLine = 16777216 := sizeLine_eq
  unfold binf at hg
  split at hg
  · cases hg; exact op_add pins s σ H x y v u Q I rx ry ⟨_, _, h1.int, h2.int, q _ _ (.vl (.int _))⟩
  · cases hg; exact op_sub pins s σ H x y v u Q I rx ry ⟨_, _, h1.int, h2.int, q _ _ (.vl (.int _))⟩
  · split at hg <;> cases hg
    rename_i c
    exact op_mulX pins s σ H x y v u Q I rx ry ⟨_, _, h1.int, h2.int, c, q _ _ (.vl (.int _))⟩
  · split at hg <;> cases hg
    rename_i c
    unfold divOk at c
    simp only [Bool.and_eq_true, decide_eq_true_eq] at c
    exact op_divX pins s σ H x y v u Q I rx ry ⟨_, _, h1.int, h2.int, c, q _ _ (.vl (.int _))⟩
  · split at hg <;> cases hg
    rename_i c
    exact op_modN pins s σ H x y v u Q I rx ry ⟨_, _, h1.int, h2.int, c, q _ _ (.vl (.int _))⟩
  · split at hg <;> cases hg
    rename_i c
    unfold powOk at c
    simp only [Bool.and_eq_true, decide_eq_true_eq] at c
    exact op_pow pins s σ H x y v u Q I rx ry ⟨_, _, h1.int, h2.int, ⟨c.1.1, c.1.2, c.2⟩, q _ _ (.vl (.int _))⟩
  · split at hg <;> cases hg
    rename_i c
    unfold powOk at c
    simp only [Bool.and_eq_true, decide_eq_true_eq] at c
    exact op_shl pins s σ H x y v u Q I rx ry ⟨_, _, h1.int, h2.int, ⟨c.1.1, c.1.2, c.2⟩, q _ _ (.vl (.int _))⟩
  · split at hg <;> cases hg
    rename_i c
    exact op_shr pins s σ H x y v u Q I rx ry ⟨_, _, h1.int, h2.int, c, q _ _ (.vl (.int _))⟩
  · cases hg; exact op_and pins s σ H x y v u Q I rx ry ⟨_, _, h1.int, h2.int, q _ _ (.vl (.int _))⟩
  · cases hg; exact op_or pins s σ H x y v u Q I rx ry ⟨_, _, h1.int, h2.int, q _ _ (.vl (.int _))⟩
  · unfold catS at hg
    split at hg <;> cases hg
    rename_i c
    exact op_add_str pins s σ H x y v u Q I rx ry ⟨_, _, h1.str, h2.str, by rw [hs]; exact c, q _ _ (.vl (.str _))⟩
  · split at hg <;> cases hg
    rename_i c
    obtain ⟨a, xs, rfl, e1, r1⟩ := h1.lst
    obtain ⟨b, ys, rfl, e2, r2⟩ := h2.lst
    exact op_cat pins s σ H _ _ v u Q I rx ry ⟨a, b, xs, ys, rfl, rfl, e1, e2, by rw [hs, r1.length, r2.length]; exact c, fun p hp => q _ _ (.nl hp (r1.append r2))⟩
  · split at hg <;> cases hg
    rename_i c
    obtain ⟨a, xs, rfl, e1, r1⟩ := h1.tup
    obtain ⟨b, ys, rfl, e2, r2⟩ := h2.tup
    rw [hK] at e1 e2
    refine op_catA pins s σ H _ _ v u Q I rx ry ⟨a, b, xs, ys, rfl, rfl, e1, e2, by rw [hs, r1.length, r2.length]; exact c, fun z => ?_, fun _ z => ?_, fun _ _ p hp => q _ _ (.nt od hp (r1.append r2))⟩
    · subst z; cases r1; exact q _ _ (.vl h2.tupR)
    · subst z; cases r2; refine q _ _ (.vl ?_); rw [List.append_nil]; exact h1.tupR
  · split at hg <;> cases hg
    rename_i c
    obtain ⟨a, xs, rfl, e1, r1⟩ := h1.lst
    exact op_rep pins s σ H _ _ v u Q I rx ry ⟨a, _, xs, rfl, h2.int, e1, c.1, c.2.1, by rw [hs, r1.length]; exact c.2.2, fun p hp => q _ _ (.nl hp (r1.rep _))⟩
  · cases hg

theorem b1_some {o : Option Bool} {sl : Slot} (h : b1 o = some sl) : ∃ b, o = some b ∧ sl = .val (.bl b) := by
  cases o with
  | none => cases h
  | some b => cases h; exact ⟨b, rfl, rfl⟩
theorem i1_some {o : Option Int} {sl : Slot} (h : i1 o = some sl) : ∃ b, o = some b ∧ sl = .val (.int b) := by
  cases o with
  | none => cases h
  | some b => cases h; exact ⟨b, rfl, rfl⟩
theorem rep_nonV {H : Hp} {v : V} {d : D} (h : Rep G H v d) : decide (v = .non) = d.isNon := by
  cases h <;> rfl
/-- a comparison by data -/
def rCX (G : Gx) (o : CmpOp) : R2 := fun x y H Q => ∃ O dx dy b, RepX G O H x dx ∧ RepX G O H y dy ∧ cmpf o dx dy = some b ∧ Q (.bl b) H
theorem opr_cmp0 {o : CmpOp} (hK : G.K = X.K) (hu : X.A.units + 65 < cLine) : OpR X (compareOp o) (rCX G o) := by
  intro pins s σ H x y v u Q I rx ry h
  obtain ⟨O, dx, dy, b, h1, h2, hg, fin⟩ := h
  have hu2 : X.A.units + 64 < cLine := by omega
  unfold cmpf at hg
  split at hg
  · cases hg; exact op_lt pins s σ H x y v u Q I rx ry ⟨_, _, h1.int, h2.int, fin⟩
  · cases hg; exact op_le pins s σ H x y v u Q I rx ry ⟨_, _, h1.int, h2.int, fin⟩
  · cases hg; exact op_gt pins s σ H x y v u Q I rx ry ⟨_, _, h1.int, h2.int, fin⟩
  · cases hg; exact op_ge pins s σ H x y v u Q I rx ry ⟨_, _, h1.int, h2.int, fin⟩
  · cases hg; exact op_lt_str pins s σ H x y v u Q I rx ry ⟨_, _, h1.str, h2.str, fin⟩
  · cases hg
    cases h1.str
    cases h2.str
    refine op_eq pins s σ H _ _ v u Q I rx ry ⟨rfl, ?_⟩
    rw [dec_str]
    rename_i i j
    rw [show (i == j) = decide (i = j) by by_cases h : i = j <;> simp [h]]
    exact fin
  · cases hg
    cases h1.str
    cases h2.str
    refine op_ne pins s σ H _ _ v u Q I rx ry ⟨rfl, ?_⟩
    rw [dec_str]
    rename_i i j
    rw [show (i == j) = decide (i = j) by by_cases h : i = j <;> simp [h]]
    exact fin
  · split at hg <;> cases hg
    rename_i c
    rw [Bool.and_eq_true] at c
    obtain ⟨p1, s1⟩ := okd_of c.1
    obtain ⟨p2, s2⟩ := okd_of c.2
    exact op_eqD hu2 pins s σ H x y v u Q I rx ry ⟨_, _, hK ▸ h1.full.dp p1, hK ▸ h2.full.dp p2, s1, s2, fin⟩
  · split at hg <;> cases hg
    rename_i c
    rw [Bool.and_eq_true] at c
    obtain ⟨p1, s1⟩ := okd_of c.1
    obtain ⟨p2, s2⟩ := okd_of c.2
    exact op_neD hu2 pins s σ H x y v u Q I rx ry ⟨_, _, hK ▸ h1.full.dp p1, hK ▸ h2.full.dp p2, s1, s2, fin⟩
  · have e := rep_nonV h1.full
    refine op_isN pins s σ H x y v u Q I rx ry ⟨h2.non, ?_⟩
    rw [e]
    cases hg; exact fin
  · have e := rep_nonV h1.full
    refine op_notN pins s σ H x y v u Q I rx ry ⟨h2.non, ?_⟩
    rw [e]
    cases hg; exact fin
  · split at hg <;> cases hg
    rename_i c
    rw [Bool.and_eq_true] at c
    obtain ⟨p1, s1⟩ := okd_of c.1
    obtain ⟨p2, s2⟩ := okd_of c.2
    have z := h2.full.dp p2
    rw [D.py] at z s2
    refine op_inD hu pins s σ H x y v u Q I rx ry ⟨_, _, hK ▸ h1.full.dp p1, hK ▸ z, s1, s2, ?_⟩
    rw [any_pys]; exact fin
  · split at hg <;> cases hg
    rename_i c
    rw [Bool.and_eq_true] at c
    obtain ⟨p1, s1⟩ := okd_of c.1
    obtain ⟨p2, s2⟩ := okd_of c.2
    have z := h2.full.dp p2
    rw [D.py] at z s2
    refine op_notInD hu pins s σ H x y v u Q I rx ry ⟨_, _, hK ▸ h1.full.dp p1, hK ▸ z, s1, s2, ?_⟩
    rw [any_pys]; exact fin
  · cases hg
theorem opr_cmp {o : CmpOp} (hK : G.K = X.K) (hu : X.A.units + 65 < cLine) : OpR X (compareOp o) (rD2 G (opf (.cmp o))) := (opr_cmp0 hK hu).wk fun x y H Q h => by
  obtain ⟨O, ds, sl, hr, od, hg, q⟩ := h
  obtain ⟨dx, dy, rfl, h1, h2⟩ := hr.two
  obtain ⟨b, hc, rfl⟩ := b1_some (show b1 (cmpf o dx dy) = some sl from hg)
  exact ⟨O, dx, dy, b, h1, h2, hc, q _ _ (.vl (.bl b))⟩
theorem ixr (hK : G.K = X.K) : IxR X (rD2 G (opf .ix)) := by
  intro e1 e2 pins s σ H x y v u Q I rx ry h hsb
  obtain ⟨O, ds, sl, hr, od, hg, q⟩ := h
  obtain ⟨dx, dy, rfl, h1, h2⟩ := hr.two
  replace hg : (ixf dx dy).map Slot.val = some sl := hg
  have hs : sizeLine = 16777216 := sizeLine_eq
  obtain ⟨d, hc, rfl⟩ := Option.map_eq_some_iff.mp hg
  clear hg
  have hg := hc
  clear hc
  unfold ixf at hg
  split at hg
  · obtain ⟨a, xs, rfl, f1, r1⟩ := h1.lst
    obtain ⟨w, f2, r2⟩ := rep_atI r1 hg
    exact ix_list e1 e2 pins s σ H _ _ v u Q I rx ry ⟨a, xs, _, w, rfl, h2.int, .of f1, f2, q _ _ (.vl r2)⟩ hsb
  · obtain ⟨a, xs, rfl, f1, r1⟩ := h1.tup
    obtain ⟨w, f2, r2⟩ := rep_atI r1 hg
    exact ix_tup e1 e2 pins s σ H _ _ v u Q I rx ry ⟨a, xs, _, w, rfl, h2.int, hK ▸ f1, f2, q _ _ (.vl r2)⟩ hsb
  · split at hg
    · rename_i c
      obtain ⟨w, f2, rfl⟩ := Option.map_eq_some_iff.mp hg
      exact ix_str e1 e2 pins s σ H _ _ v u Q I rx ry ⟨_, _, w, h1.str, h2.int, by rw [hs]; exact c, f2, q _ _ (.vl (.str _))⟩ hsb
    · cases hg
  · cases hg
theorem cutD_whole {ds : List D} {lo hi : Option Int} (h : HT.sIx ds.length 0 lo = 0 ∧ HT.sIx ds.length ds.length hi = ds.length) : cutD ds lo hi = ds := by
  unfold cutD
  rw [h.1, h.2]; simp
/-- a slice by data -/
def rSl (G : Gx) : V → Option Int → Option Int → Hp → VK → Prop := fun x lo hi H Q => ∃ O d s, RepX G O H x d ∧ (∀ a ∈ O, ∃ o, H a = some o ∧ Mut (some o)) ∧ slf lo hi d = some s ∧ ∀ v H', Res G O H v H' s → Q v H'
theorem slr (hK : G.K = X.K) : SlR X (rSl G) := by
  intro pins s σ H x v vl vu lo hi sl Q I rx hs pl pu h
  obtain ⟨O, d, sl', h1, od, hg, q⟩ := h
  unfold slf at hg
  split at hg
  · cases hg
    obtain ⟨a, xs, rfl, e1, r1⟩ := h1.lst
    exact sl_list pins s σ H _ v vl vu lo hi sl Q I rx hs pl pu ⟨a, xs, rfl, .of e1, fun p hp => q _ _ (.nl hp (reps_cut r1 lo hi))⟩
  · cases hg
    have h0 := h1.tupR
    obtain ⟨a, xs, rfl, e1, r1⟩ := h1.tup
    refine sl_tupA pins s σ H _ v vl vu lo hi sl Q I rx hs pl pu ⟨a, xs, rfl, hK ▸ e1, fun z => ?_, fun _ p hp => q _ _ (.nt od hp (reps_cut r1 lo hi))⟩
    rw [r1.length] at z
    refine q _ _ (.vl ?_)
    rw [cutD_whole z]; exact h0
  · cases hg
theorem _root_.L2.CallR.wk {f : Value} {r r' : List V → Hp → VK → Prop} (h : CallR X f r) (k : ∀ xs H Q, r' xs H Q → r xs H Q) : CallR X f r' := fun pins s σ H xs us Q I r z => h pins s σ H xs us Q I r (k _ _ _ z)
theorem RepXs.get1 {g : List D → Option Slot} {G : Gx} {O : List Addr} {H : Hp} {vs : List V} {ds : List D} {sl : Slot} (hr : RepXs G O H vs ds) (hg : g ds = some sl) (h1 : ∀ ds, ds.length ≠ 1 → g ds = none) : ∃ v d, vs = [v] ∧ ds = [d] ∧ RepX G O H v d ∧ g [d] = some sl := by
  by_cases hl : ds.length = 1
  · match ds, hl, hr, hg with
    | [d], _, hr, hg =>
      obtain ⟨v, rfl, h⟩ := hr.one
      exact ⟨v, d, rfl, rfl, h, hg⟩
  · rw [h1 ds hl] at hg; cases hg
theorem len1 {o : Op} (h : ∀ a b r, opf o (a :: b :: r) = none) (h0 : opf o [] = none) : ∀ ds : List D, ds.length ≠ 1 → opf o ds = none
  | [], _ => h0
  | [_], q => absurd rfl q
  | a :: b :: r, _ => h a b r
theorem cr_len (hK : G.K = X.K) : CallR X (.builtin "len") (rD G (opf .len)) := call_len.wk fun xs H Q h => by
  obtain ⟨O, ds, sl, hr, od, hg, q⟩ := h
  have hs : sizeLine = 16777216 := sizeLine_eq
  obtain ⟨x, d, rfl, rfl, h1, hg⟩ := hr.get1 hg (len1 (fun _ _ _ => by simp [opf]) rfl)
  replace hg : (lenD d).map (fun n : Nat => Slot.val (.int n)) = some sl := hg
  obtain ⟨n, hc, rfl⟩ := Option.map_eq_some_iff.mp hg
  clear hg
  refine ⟨x, n, rfl, ?_, q _ _ (.vl (.int _))⟩
  unfold lenD at hc
  split at hc
  · cases hc
    obtain ⟨a, xs, rfl, e1, r1⟩ := h1.lst
    exact .inl ⟨xs, .of e1, r1.length.symm⟩
  · cases hc
    obtain ⟨a, xs, rfl, e1, r1⟩ := h1.rol
    exact .inl ⟨xs, hK ▸ e1, r1.length.symm⟩
  · cases hc
    obtain ⟨a, xs, rfl, e1, r1⟩ := h1.tup
    exact .inr ⟨xs, hK ▸ e1, r1.length.symm⟩
  · split at hc <;> cases hc
    rename_i c
    rw [h1.str]
    exact ⟨by rw [hs]; exact c, rfl⟩
  · cases hc
theorem isi_kind {n : String} {d : D} {b : Bool} (h : isiD n d = some b) : ∃ t, kindD d = some t ∧ kitB t n = some b := Option.bind_eq_some_iff.mp h
theorem cr_isi {n : String} (hK : G.K = X.K) : CallR X (.builtin "isinstance") (fun xs H Q => ∃ x, xs = [x, .ty n] ∧ rD G (opf (.isi n)) [x] H Q) := call_isi.wk fun xs H Q h => by
  obtain ⟨x, rfl, O, ds, sl, hr, od, hg, q⟩ := h
  obtain ⟨x', d, e, rfl, h1, hg⟩ := hr.get1 hg (len1 (fun _ _ _ => by simp [opf]) rfl)
  cases e
  obtain ⟨b, hb, rfl⟩ := b1_some (show b1 (isiD n d) = some sl from hg)
  obtain ⟨t, ht, hk⟩ := isi_kind hb
  refine ⟨x, .ty n, .type t, .type n, b, rfl, .ty n, ?_, kit_ty hk, q _ _ (.vl (.bl _))⟩
  cases d with
  | non => cases ht; rw [h1.non]; exact .base .non
  | bl b => cases ht; rw [h1.bl]; exact .base (.bl _)
  | int b => cases ht; rw [h1.int]; exact .base (.int _)
  | str b => cases ht; rw [h1.str]; exact .base (.str _)
  | lst b => cases ht; obtain ⟨a, xs, rfl, e1, r1⟩ := h1.lst; exact .base (.lst e1)
  | tup b =>
    cases ht
    obtain ⟨a, xs, rfl, e1, r1⟩ := h1.tup
    rcases e1 with (e1 | ⟨o, e1⟩) | ⟨o, its, n, e1, e2, _⟩
    · exact .base (.tup e1)
    · exact .fTuple e1
    · exact .kTuple (hK ▸ e1) e2
  | _ => cases ht
theorem cr_int : CallR X (.type "int") (rD G (opf .int)) := call_int1.wk fun xs H Q h => by
  obtain ⟨O, ds, sl, hr, od, hg, q⟩ := h
  obtain ⟨x, d, rfl, rfl, h1, hg⟩ := hr.get1 hg (len1 (fun _ _ _ => by simp [opf]) rfl)
  cases d with
  | int i => cases hg; rw [h1.int]; exact .inl ⟨_, rfl, q _ _ (.vl (.int _))⟩
  | bl i => cases hg; rw [h1.bl]; exact .inr ⟨_, rfl, q _ _ (.vl (.int _))⟩
  | _ => cases hg
theorem cr_abs : CallR X (.builtin "abs") (rD G (opf .abs)) := call_abs.wk fun xs H Q h => by
  obtain ⟨O, ds, sl, hr, od, hg, q⟩ := h
  obtain ⟨x, d, rfl, rfl, h1, hg⟩ := hr.get1 hg (len1 (fun _ _ _ => by simp [opf]) rfl)
  cases d with
  | int i => cases hg; rw [h1.int]; exact ⟨_, rfl, q _ _ (.vl (.int _))⟩
  | _ => cases hg
theorem cr_allD (hc : X.calm = true) : CallR X (.builtin "all") (rD G (opf .all)) := (cr_all hc).wk fun xs H Q h => by
  obtain ⟨O, ds, sl, hr, od, hg, q⟩ := h
  obtain ⟨x, d, rfl, rfl, h1, hg⟩ := hr.get1 hg (len1 (fun _ _ _ => by simp [opf]) rfl)
  cases d with
  | lst ys =>
    obtain ⟨b, hb, rfl⟩ := b1_some (show b1 ((blsD ys).map fun bs => bs.all id) = some sl from hg)
    obtain ⟨bs, hb2, rfl⟩ := Option.map_eq_some_iff.mp hb
    obtain ⟨a, zs, rfl, e1, r1⟩ := h1.lst
    rw [reps_bls r1 hb2] at e1
    exact ⟨a, bs, rfl, .of e1, q _ _ (.vl (.bl _))⟩
  | _ => cases hg
theorem cr_anyD (hc : X.calm = true) : CallR X (.builtin "any") (rD G (opf .any)) := (cr_any hc).wk fun xs H Q h => by
  obtain ⟨O, ds, sl, hr, od, hg, q⟩ := h
  obtain ⟨x, d, rfl, rfl, h1, hg⟩ := hr.get1 hg (len1 (fun _ _ _ => by simp [opf]) rfl)
  cases d with
  | lst ys =>
    obtain ⟨b, hb, rfl⟩ := b1_some (show b1 ((blsD ys).map fun bs => bs.any id) = some sl from hg)
    obtain ⟨bs, hb2, rfl⟩ := Option.map_eq_some_iff.mp hb
    obtain ⟨a, zs, rfl, e1, r1⟩ := h1.lst
    rw [reps_bls r1 hb2] at e1
    exact ⟨a, bs, rfl, .of e1, q _ _ (.vl (.bl _))⟩
  | _ => cases hg
theorem cr_sumD (hc : X.calm = true) : CallR X (.builtin "sum") (rD G (opf .sum)) := (cr_sum hc).wk fun xs H Q h => by
  obtain ⟨O, ds, sl, hr, od, hg, q⟩ := h
  obtain ⟨x, d, rfl, rfl, h1, hg⟩ := hr.get1 hg (len1 (fun _ _ _ => by simp [opf]) rfl)
  cases d with
  | lst ys =>
    obtain ⟨b, hb, rfl⟩ := i1_some (show i1 ((intsD ys).map List.sum) = some sl from hg)
    obtain ⟨bs, hb2, rfl⟩ := Option.map_eq_some_iff.mp hb
    obtain ⟨a, zs, rfl, e1, r1⟩ := h1.lst
    rw [reps_ints r1 hb2] at e1
    exact ⟨a, bs, rfl, .of e1, q _ _ (.vl (.int _))⟩
  | _ => cases hg
theorem maxF (r : List Int) : ∀ x : Int, (r.foldl (fun a b => if b > a then b else a) x ∈ x :: r) ∧ x ≤ r.foldl (fun a b => if b > a then b else a) x ∧ ∀ y ∈ r, y ≤ r.foldl (fun a b => if b > a then b else a) x := by
  induction r with
  | nil => intro x; simp
  | cons a r ih =>
    intro x
    rw [List.foldl_cons]
    obtain ⟨h1, h2, h3⟩ := ih (if a > x then a else x)
    refine ⟨?_, ?_, fun y hy => ?_⟩
    · rcases List.mem_cons.mp h1 with h | h
      · rw [h]; split <;> simp
      · exact List.mem_cons_of_mem _ (List.mem_cons_of_mem _ h)
    · refine Int.le_trans ?_ h2
      split <;> omega
    · rcases List.mem_cons.mp hy with rfl | hy
      · refine Int.le_trans ?_ h2
        split <;> omega
      · exact h3 y hy
theorem minF (r : List Int) : ∀ x : Int, (r.foldl (fun a b => if b < a then b else a) x ∈ x :: r) ∧ r.foldl (fun a b => if b < a then b else a) x ≤ x ∧ ∀ y ∈ r, r.foldl (fun a b => if b < a then b else a) x ≤ y := by
  induction r with
  | nil => intro x; simp
  | cons a r ih =>
    intro x
    rw [List.foldl_cons]
    obtain ⟨h1, h2, h3⟩ := ih (if a < x then a else x)
    refine ⟨?_, ?_, fun y hy => ?_⟩
    · rcases List.mem_cons.mp h1 with h | h
      · rw [h]; split <;> simp
      · exact List.mem_cons_of_mem _ (List.mem_cons_of_mem _ h)
    · refine Int.le_trans h2 ?_
      split <;> omega
    · rcases List.mem_cons.mp hy with rfl | hy
      · refine Int.le_trans h2 ?_
        split <;> omega
      · exact h3 y hy
theorem maxI_mem (r : List Int) (x : Int) : maxI (x :: r) ∈ x :: r ∧ ∀ y ∈ x :: r, y ≤ maxI (x :: r) := by
  obtain ⟨h1, h2, h3⟩ := maxF r x
  refine ⟨h1, fun y hy => ?_⟩
  rcases List.mem_cons.mp hy with rfl | hy
  · exact h2
  · exact h3 y hy
theorem minI_mem (r : List Int) (x : Int) : minI (x :: r) ∈ x :: r ∧ ∀ y ∈ x :: r, minI (x :: r) ≤ y := by
  obtain ⟨h1, h2, h3⟩ := minF r x
  refine ⟨h1, fun y hy => ?_⟩
  rcases List.mem_cons.mp hy with rfl | hy
  · exact h2
  · exact h3 y hy
theorem maxI_eq {ns : List Int} {m : Int} (h : m ∈ ns) (k : ∀ y ∈ ns, y ≤ m) : maxI ns = m := by
  cases ns with
  | nil => cases h
  | cons x r =>
    obtain ⟨h1, h2⟩ := maxI_mem r x
    have := k _ h1
    have := h2 _ h
    omega
theorem minI_eq {ns : List Int} {m : Int} (h : m ∈ ns) (k : ∀ y ∈ ns, m ≤ y) : minI ns = m := by
  cases ns with
  | nil => cases h
  | cons x r =>
    obtain ⟨h1, h2⟩ := minI_mem r x
    have := k _ h1
    have := h2 _ h
    omega
theorem cr_maxD (hc : X.calm = true) : CallR X (.builtin "max") (fun xs H Q => (xs.length = 1 ∨ xs.length = 2) ∧ rD G (opf .max) xs H Q) := ((cr_max hc).or (call_max2 hc)).wk fun xs H Q h => by
  obtain ⟨hl, O, ds, sl, hr, od, hg, q⟩ := h
  match xs, ds, hr, hg with
  | [x], ds, hr, hg =>
    obtain ⟨d, rfl, h1⟩ : ∃ d, ds = [d] ∧ RepX G O H x d := by
      cases hr with
      | cons h r => cases r; exact ⟨_, rfl, h⟩
    left
    cases d with
    | lst ys =>
      obtain ⟨b, hb, rfl⟩ := i1_some (show i1 ((intsD ys).bind fun ns => if ns.isEmpty then none else some (maxI ns)) = some sl from hg)
      obtain ⟨bs, hb3, hb2⟩ := Option.bind_eq_some_iff.mp hb
      split at hb2
      · cases hb2
      · rename_i hne
        cases hb2
        obtain ⟨a, zs, rfl, e1, r1⟩ := h1.lst
        rw [reps_ints r1 hb3] at e1
        refine ⟨a, bs, rfl, .of e1, ?_, fun m hm hy => ?_⟩
        · cases bs with
          | nil => exact absurd rfl hne
          | cons _ _ => simp
        · rw [← maxI_eq hm hy]; exact q _ _ (.vl (.int _))
    | _ => cases hg
  | [x, y], _, hr, hg =>
    obtain ⟨dx, dy, rfl, h1, h2⟩ := hr.two
    right
    cases dx with
    | int i => cases dy with
      | int j => cases hg; rw [h1.int, h2.int]; exact ⟨_, _, rfl, q _ _ (.vl (.int _))⟩
      | _ => cases hg
    | _ => cases dy <;> cases hg
  | [], _, _, _ => simp at hl
  | _ :: _ :: _ :: _, _, _, _ => simp at hl
theorem cr_minD (hc : X.calm = true) : CallR X (.builtin "min") (fun xs H Q => (xs.length = 1 ∨ xs.length = 2) ∧ rD G (opf .min) xs H Q) := ((cr_min hc).or (call_min2 hc)).wk fun xs H Q h => by
  obtain ⟨hl, O, ds, sl, hr, od, hg, q⟩ := h
  match xs, ds, hr, hg with
  | [x], ds, hr, hg =>
    obtain ⟨d, rfl, h1⟩ : ∃ d, ds = [d] ∧ RepX G O H x d := by
      cases hr with
      | cons h r => cases r; exact ⟨_, rfl, h⟩
    left
    cases d with
    | lst ys =>
      obtain ⟨b, hb, rfl⟩ := i1_some (show i1 ((intsD ys).bind fun ns => if ns.isEmpty then none else some (minI ns)) = some sl from hg)
      obtain ⟨bs, hb3, hb2⟩ := Option.bind_eq_some_iff.mp hb
      split at hb2
      · cases hb2
      · rename_i hne
        cases hb2
        obtain ⟨a, zs, rfl, e1, r1⟩ := h1.lst
        rw [reps_ints r1 hb3] at e1
        refine ⟨a, bs, rfl, .of e1, ?_, fun m hm hy => ?_⟩
        · cases bs with
          | nil => exact absurd rfl hne
          | cons _ _ => simp
        · rw [← minI_eq hm hy]; exact q _ _ (.vl (.int _))
    | _ => cases hg
  | [x, y], _, hr, hg =>
    obtain ⟨dx, dy, rfl, h1, h2⟩ := hr.two
    right
    cases dx with
    | int i => cases dy with
      | int j => cases hg; rw [h1.int, h2.int]; exact ⟨_, _, rfl, q _ _ (.vl (.int _))⟩
      | _ => cases hg
    | _ => cases dy <;> cases hg
  | [], _, _, _ => simp at hl
  | _ :: _ :: _ :: _, _, _, _ => simp at hl
theorem cr_tupleD (hK : G.K = X.K) : CallR X (.type "tuple") (rD G (opf .tuple)) := call_tuple_of.wk fun xs H Q h => by
  obtain ⟨O, ds, sl, hr, od, hg, q⟩ := h
  obtain ⟨x, d, rfl, rfl, h1, hg⟩ := hr.get1 hg (len1 (fun _ _ _ => by simp [opf]) rfl)
  cases d with
  | lst ys =>
    cases hg
    obtain ⟨a, zs, rfl, e1, r1⟩ := h1.lst
    exact ⟨a, zs, rfl, .inl ⟨.of e1, fun p hp => q _ _ (.nt od hp r1)⟩⟩
  | tup ys =>
    cases hg
    have h0 := h1.tupR
    obtain ⟨a, zs, rfl, e1, r1⟩ := h1.tup
    exact ⟨a, zs, rfl, .inr ⟨hK ▸ e1, q _ _ (.vl h0)⟩⟩
  | _ => cases hg
/-- repr of data -/
theorem cr_repr (hK : G.K = X.K) (hgd : X.A.guards = some []) (hu : X.A.units + 70 < cLine) : CallR X (.builtin "repr") (rD G (opf .repr)) := by
  intro pins s σ H xs us Q I r h
  obtain ⟨O, ds, sl, hr, od, hg, q⟩ := h
  obtain ⟨x, d, rfl, rfl, h1, hg⟩ := hr.get1 hg (len1 (fun _ _ _ => by simp [opf]) rfl)
  replace hg : (if reprOk d then some (Slot.val (.str d.py.shown)) else none) = some sl := hg
  split at hg <;> cases hg
  rename_i c
  unfold reprOk at c
  simp only [Bool.and_eq_true, decide_eq_true_eq] at c
  obtain ⟨p1, s1⟩ := okd_of c.1.1
  obtain ⟨u, rfl, ru⟩ := vals1 r
  have hs : sizeLine = 16777216 := sizeLine_eq
  have hz : d.py.shown.length ≤ sizeLine := by rw [hs]; exact c.2
  have fin : Q (.str d.py.shown) H := q _ _ (.vl (.str _))
  cases d with
  | non =>
    rw [h1.non] at ru
    cases ru
    rw [D.py, PyData.shown] at fin
    exact PySem.P.repr_of_none ⟨.str "None", H, I.tok _, ⟨_, rfl⟩, fin⟩
  | bl b =>
    rw [h1.bl] at ru
    cases ru
    rw [D.py, PyData.shown] at fin
    exact PySem.P.repr_of_bool ⟨.str _, H, I.tok _, ⟨_, rfl⟩, fin⟩
  | int i =>
    rw [h1.int] at ru
    obtain ⟨t, rfl⟩ := ru
    rw [D.py, PyData.shown] at fin
    have k := c.1.2
    rw [D.py, PyData.showable, decide_eq_true_eq] at k
    exact PySem.P.repr_of_int k ⟨.str _, H, I.tok _, ⟨_, rfl⟩, fin⟩
  | str z =>
    rw [h1.str] at ru
    obtain ⟨t, rfl⟩ := ru
    rw [D.py, PyData.shown] at fin hz
    exact PySem.P.repr_of_str ⟨.str _, H, I.tok _, ⟨_, rfl⟩, fin⟩ hz
  | lst ys =>
    obtain ⟨as, rd⟩ := Dp.reads I _ _ _ (hK ▸ h1.full.dp p1) ru
    obtain ⟨a, zs, rfl, _, _⟩ := h1.lst
    cases ru
    have dp := SeqAt.depth_of_shaped s1
    exact repr_of_reads' rd c.1.2 (fun z => by rw [PyData.hasDict_of_canLay _ (SeqAt.canLay_of_shaped s1)] at z; cases z) hgd (by omega) (fun _ _ e => e) (fun h' u tk k => ⟨.str _, H, I.un (Un.kept k) (I.hok.kept k), ⟨_, rfl⟩, fin⟩) hz
  | tup ys =>
    obtain ⟨as, rd⟩ := Dp.reads I _ _ _ (hK ▸ h1.full.dp p1) ru
    obtain ⟨a, zs, rfl, _, _⟩ := h1.tup
    cases ru
    have dp := SeqAt.depth_of_shaped s1
    exact repr_of_reads' rd c.1.2 (fun z => by rw [PyData.hasDict_of_canLay _ (SeqAt.canLay_of_shaped s1)] at z; cases z) hgd (by omega) (fun _ _ e => e) (fun h' u tk k => ⟨.str _, H, I.un (Un.kept k) (I.hok.kept k), ⟨_, rfl⟩, fin⟩) hz
  | _ => cases p1
end
end DL
namespace DL
open PySem L2

/-! ## what a def promises, by data -/
inductive ArgsOk (G : Gx) (O : List Addr) (H : Hp) : List Bool → List V → List D → Prop
  | nil : ArgsOk G O H [] [] []
  | val {m : List Bool} {v : V} {vs : List V} {d : D} {ds : List D} : Rep G (cut H O) v d → ArgsOk G O H m vs ds → ArgsOk G O H (false :: m) (v :: vs) (d :: ds)
  | io {m : List Bool} {a : Addr} {vs : List V} {d : D} {ds : List D} : a ∈ O → OwnAt G H O a d → ArgsOk G O H m vs ds → ArgsOk G O H (true :: m) (.ref a :: vs) (d :: ds)
def iosOf : List Bool → List V → Nat → List (Nat × Addr)
  | true :: m, .ref a :: vs, i => (i, a) :: iosOf m vs (i + 1)
  | false :: m, _ :: vs, i => iosOf m vs (i + 1)
  | _, _, _ => []
/-- the answer, the new contents of what was lent -/
def Ret (G : Gx) (O : List Addr) (H H' : Hp) (io : List Addr) (cs : List D) (v : V) : Slot → Prop
  | .val d => Rep G (cut H' O) v d ∧ Paired (fun a c => OwnAt G H' O a c) io cs
  | .own d => ∃ a, v = .ref a ∧ H a = none ∧ OwnAt G H' (a :: O) a d ∧ Paired (fun a' c => OwnAt G H' (a :: O) a' c) io cs
  | _ => False
def Frame (io : List Addr) (H H' : Hp) : Prop := ∀ b o, b ∉ io → H b = some o → H' b = some o
def spF (G : Gx) (m : List Bool) (F : Fn) : Sp := fun vs H Q E => ∃ O ds, ArgsOk G O H m vs ds ∧ ((iosOf m vs 0).map (·.2)).Nodup ∧ (∀ a ∈ O, ∃ o, H a = some o ∧ Mut (some o)) ∧ match F ds with
  | .ok (s, cs) => ∀ v H', Frame ((iosOf m vs 0).map (·.2)) H H' → Ret G O H H' ((iosOf m vs 0).map (·.2)) cs v s → Q v H'
  | .exc c x cs => ∀ cv d H', Frame ((iosOf m vs 0).map (·.2)) H H' → Paired (fun a c => OwnAt G H' O a c) ((iosOf m vs 0).map (·.2)) cs → ExcAt G O H' c x cv d → E cv d H'
  | .bad => False
theorem ArgsOk.len {G : Gx} {O : List Addr} {H : Hp} : ∀ {m : List Bool} {vs : List V} {ds : List D}, ArgsOk G O H m vs ds → vs.length = m.length ∧ ds.length = m.length
  | _, _, _, .nil => ⟨rfl, rfl⟩
  | _, _, _, .val _ r => by simp [r.len.1, r.len.2]
  | _, _, _, .io _ _ r => by simp [r.len.1, r.len.2]

def Arg.isRef : Arg → Bool
  | .dat _ => false
  | .ref _ => true
theorem cw_match {m : Bool} {e : E} {ρ : Sts} {r : R Sts (D × Sts)} {p : Arg × Sts} (h : cw m e ρ r = .ok p) : p.1.isRef = m := by
  unfold cw at h
  split at h
  · rename_i c; subst c
    split at h
    · split at h
      · cases h; rfl
      · cases h
    · cases h
  · rename_i c
    have c : m = false := by simpa using c
    subst c
    cases r with
    | ok q => cases h; rfl
    | exc _ _ _ => cases h
    | bad => cases h
theorem evCs_match {Φ : Nat → Fn} : ∀ {es : List E} {m : List Bool} {ρ : Sts} {p : List Arg × Sts}, m.length = es.length → evCs Φ m es ρ = .ok p → p.1.map Arg.isRef = m
  | [], m, ρ, p, hl, h => by
    have : m = [] := List.length_eq_zero_iff.mp hl
    subst this
    have h' : (R.ok ([], ρ) : R Sts (List Arg × Sts)) = .ok p := h
    cases h'; rfl
  | e :: es, [], ρ, p, hl, h => by simp at hl
  | e :: es, b :: m, ρ, p, hl, h => by
    have h' : ((cw b e ρ (rel (ev Φ e ρ))).bind fun p => (evCs Φ m es p.2).map fun q => (p.1 :: q.1, q.2)) = .ok p := h
    cases e1 : cw b e ρ (rel (ev Φ e ρ)) with
    | ok q =>
      rw [e1] at h'
      replace h' : ((evCs Φ m es q.2).map fun z => (q.1 :: z.1, z.2)) = .ok p := h'
      cases e2 : evCs Φ m es q.2 with
      | ok z =>
        rw [e2] at h'
        cases h'
        rw [List.map_cons, cw_match e1, evCs_match (by simpa using hl) e2]
      | exc _ _ _ => rw [e2] at h'; cases h'
      | bad => rw [e2] at h'; cases h'
    | exc _ _ _ => rw [e1] at h'; cases h'
    | bad => rw [e1] at h'; cases h'

section
variable {P : Pm} {W : WX} {σ : St} {O O' : List Addr} {H H' : Hp} {ρ ρ' : Sts}
def adr (σ : St) (i : Nat) : Addr := match σ[i]? with
  | some (some (.ref a)) => a
  | _ => 0
theorem adr_of {i : Nat} {a : Addr} (h : σ[i]? = some (some (.ref a))) : adr σ i = a := by unfold adr; rw [h]
theorem gets_mu : ∀ {as : List Arg} {ds : List D}, gets ρ as = some ds → ∀ i ∈ refs as, ((ρ[i]?).bind Slot.mu?).isSome = true
  | [], _, _, i, hi => by cases hi
  | a :: as, ds, h, i, hi => by
    unfold gets at h
    split at h
    · rename_i d ds' e1 e2
      cases a with
      | dat d => exact gets_mu e2 i hi
      | ref j =>
        rcases List.mem_cons.mp hi with rfl | hi
        · have e1' : (ρ[i]?).bind Slot.mu? = some d := e1
          rw [e1']; rfl
        · exact gets_mu e2 i hi
    · cases h
theorem args_ok (R : Rel P O ρ σ H) : ∀ {as : List Arg} {vs : List V} {ds : List D} (k : Nat), ArgsAt P σ O H vs as → gets ρ as = some ds →
    ArgsOk P.G O H (as.map Arg.isRef) vs ds ∧ (iosOf (as.map Arg.isRef) vs k).map (·.2) = (refs as).map (adr σ)
  | [], _, _, _, .nil, h => by cases h; exact ⟨.nil, rfl⟩
  | a :: as, _, ds, k, .cons h1 h2, h => by
    unfold gets at h
    split at h
    · rename_i d ds' e1 e2
      cases h
      obtain ⟨k1, k2⟩ := args_ok R (k + 1) h2 e2
      cases a with
      | dat d' => cases e1; exact ⟨.val h1 k1, k2⟩
      | ref i =>
        obtain ⟨b, q1, q2, q3, _⟩ := R.mu (i := i) e1
        have h1' : σ[i]? = some (some _) := h1
        rw [q1] at h1'
        cases h1'
        refine ⟨.io q2 q3 k1, ?_⟩
        show (iosOf (true :: as.map Arg.isRef) (V.ref b :: _) k).map (·.2) = adr σ i :: (refs as).map (adr σ)
        rw [adr_of q1, ← k2]
        rfl
    · cases h
theorem nodup_adr (R : Rel P O ρ σ H) : ∀ {is : List Nat}, is.Nodup → (∀ i ∈ is, ((ρ[i]?).bind Slot.mu?).isSome = true) → (is.map (adr σ)).Nodup
  | [], _, _ => List.nodup_nil
  | i :: is, h, k => by
    obtain ⟨h1, h2⟩ := List.nodup_cons.mp h
    rw [List.map_cons]
    refine List.nodup_cons.mpr ⟨fun m => ?_, nodup_adr R h2 fun j hj => k j (List.mem_cons_of_mem _ hj)⟩
    obtain ⟨j, hj, e⟩ := List.mem_map.mp m
    obtain ⟨d, hd⟩ := Option.isSome_iff_exists.mp (k i List.mem_cons_self)
    obtain ⟨d', hd'⟩ := Option.isSome_iff_exists.mp (k j (List.mem_cons_of_mem _ hj))
    obtain ⟨a, q1, _⟩ := R.mu hd
    obtain ⟨b, q2, _⟩ := R.mu hd'
    rw [adr_of q1, adr_of q2] at e
    subst e
    have := R.muNe (k i List.mem_cons_self) (k j (List.mem_cons_of_mem _ hj)) q1 q2
    subst this
    exact h1 hj
theorem setIos_spec : ∀ {as : List Arg} {cs : List D} {ρ ρ' : Sts}, setIos as cs ρ = some ρ' → (refs as).Nodup →
    ρ'.length = ρ.length ∧ cs.length = (refs as).length ∧ (∀ j, j ∉ refs as → ρ'[j]? = ρ[j]?) ∧ ∀ (k i : Nat) (c : D), (refs as)[k]? = some i → cs[k]? = some c → ρ'[i]? = (ρ[i]?).map fun s => s.put c
  | [], [], ρ, ρ', h, _ => by cases h; exact ⟨rfl, rfl, fun _ _ => rfl, fun k i c e => by simp [refs] at e⟩
  | [], _ :: _, _, _, h, _ => by cases h
  | .ref i :: as, [], _, _, h, _ => by cases h
  | .ref i :: as, c :: cs, ρ, ρ', h, nd => by
    have h' : setIos as cs (putE ρ i c) = some ρ' := h
    obtain ⟨n1, n2⟩ := List.nodup_cons.mp nd
    obtain ⟨h1, h2, h3, h4⟩ := setIos_spec h' n2
    have hp : ∀ j, i ≠ j → (putE ρ i c)[j]? = ρ[j]? := fun j hj => by unfold putE; rw [List.getElem?_set_ne hj]
    refine ⟨by rw [h1]; unfold putE; simp, by simp [refs, h2], fun j hj => ?_, fun k l c' e1 e2 => ?_⟩
    · have hj' : i ≠ j ∧ j ∉ refs as := by
        constructor
        · rintro rfl; exact hj List.mem_cons_self
        · exact fun m => hj (List.mem_cons_of_mem _ m)
      rw [h3 j hj'.2, hp j hj'.1]
    · cases k with
      | zero =>
        have e1' : i = l := by simpa [refs] using e1
        have e2' : c = c' := by simpa using e2
        subst e1' e2'
        rw [h3 i n1]
        unfold putE
        by_cases hl : i < ρ.length
        · rw [List.getElem?_set_self hl, List.getD_eq_getElem?_getD, List.getElem?_eq_getElem hl]; rfl
        · rw [List.getElem?_eq_none (by simpa using hl), List.getElem?_eq_none (by simpa using hl)]; rfl
      | succ k =>
        have e1' : (refs as)[k]? = some l := by simpa [refs] using e1
        have hl : i ≠ l := fun z => n1 (z ▸ List.mem_of_getElem? e1')
        rw [h4 k l c' e1' (by simpa using e2), hp l hl]
  | .dat d :: as, cs, ρ, ρ', h, nd => by
    have h' : setIos as cs ρ = some ρ' := by cases cs <;> exact h
    exact setIos_spec (as := as) h' nd
theorem paired_at {α β : Type} {F : α → β → Prop} : ∀ {l₁ : List α} {l₂ : List β} {i : Nat} {a : α}, Paired F l₁ l₂ → l₁[i]? = some a → ∃ b, l₂[i]? = some b ∧ F a b
  | _, _, _, _, .nil, h => by simp at h
  | _, _, 0, _, .cons r _, h => by simp at h; subst h; exact ⟨_, rfl, r⟩
  | _, _, i + 1, a, .cons _ t, h => by
    obtain ⟨b, h1, h2⟩ := paired_at (i := i) (a := a) t (by simpa using h)
    exact ⟨b, by simpa using h1, h2⟩
/-- behind a call -/
theorem Rel.after (R : Rel P O ρ σ H) {as : List Arg} {ds cs : List D} (hg : gets ρ as = some ds) (nd : (refs as).Nodup) (hset : setIos as cs ρ = some ρ')
    (fr : Frame ((refs as).map (adr σ)) H H') (hO : ∀ a ∈ O, a ∈ O') (hn : ∀ a ∈ O', a ∈ O ∨ (H a = none ∧ ∃ o, H' a = some o ∧ Mut (some o))) (cs_ok : Paired (fun a c => OwnAt P.G H' O' a c) ((refs as).map (adr σ)) cs) : Rel P O' ρ' σ H' := by
  obtain ⟨l1, l2, l3, l4⟩ := setIos_spec hset nd
  have isM := gets_mu hg
  have k : ∀ b o, cut H O b = some o → cut H' O' b = some o := fun b o e => by
    obtain ⟨h1, h2⟩ := cut_some.mp e
    refine cut_some.mpr ⟨fun m => ?_, fr b o (fun m => ?_) h2⟩
    · rcases hn b m with z | ⟨z, _⟩
      · exact h1 z
      · rw [h2] at z; cases z
    · obtain ⟨i, hi, rfl⟩ := List.mem_map.mp m
      obtain ⟨d, hd⟩ := Option.isSome_iff_exists.mp (isM i hi)
      obtain ⟨a, q1, q2, _⟩ := R.mu hd
      rw [adr_of q1] at h1
      exact h1 q2
  have at_ref : ∀ i ∈ refs as, ∃ c s, ρ[i]? = some s ∧ ρ'[i]? = some (s.put c) ∧ OwnAt P.G H' O' (adr σ i) c ∧ (s.mu?).isSome = true := fun i hi => by
    obtain ⟨n, hn⟩ := List.mem_iff_getElem?.mp hi
    have h1 : ((refs as).map (adr σ))[n]? = some (adr σ i) := by rw [List.getElem?_map, hn]; rfl
    obtain ⟨c, h2, h3⟩ := paired_at cs_ok h1
    have m := isM i hi
    cases e : ρ[i]? with
    | none => rw [e] at m; cases m
    | some s =>
      rw [e] at m
      refine ⟨c, s, rfl, ?_, h3, m⟩
      rw [l4 n i c hn h2, e]; rfl
  have other : ∀ i a d, i ∉ refs as → σ[i]? = some (some (V.ref a)) → ((ρ[i]?).bind Slot.mu?).isSome = true → OwnAt P.G H O a d → OwnAt P.G H' O' a d := fun i a d hi h1 h2 h3 => by
    refine h3.mono (fun o e => fr a o (fun m => ?_) e) k
    obtain ⟨j, hj, e⟩ := List.mem_map.mp m
    obtain ⟨d', hd⟩ := Option.isSome_iff_exists.mp (isM j hj)
    obtain ⟨b, q1, _⟩ := R.mu hd
    rw [adr_of q1] at e
    subst e
    have := R.muNe h2 (isM j hj) h1 q1
    subst this
    exact hi hj
  have own_of : ∀ (j : Nat) (u : D), ρ'[j]? = some (.own u) → ∃ u', ρ[j]? = some (.own u') := fun j u q => by
    by_cases hj : j ∈ refs as
    · obtain ⟨c, s, h1, h2, _, m⟩ := at_ref j hj
      rw [q] at h2
      cases s with
      | own f => exact ⟨f, h1⟩
      | emp => cases m
      | val _ => cases m
      | io _ => cases h2
    · rw [l3 j hj] at q; exact ⟨u, q⟩
  refine ⟨by rw [l1]; exact R.len, fun i d q => ?_, fun i d q => ?_, fun i d q => ?_, fun i j a s t q1 q2 q3 q4 => ?_, R.iod, fun b o h1 h2 => ?_, fun a h => ?_, fun a h => ?_, fun a h => hO a (R.exs a h), R.sub⟩
  · by_cases hi : i ∈ refs as
    · obtain ⟨c, s, h1, h2, _, m⟩ := at_ref i hi
      rw [q] at h2
      cases s with
      | emp => cases m
      | val _ => cases m
      | own _ => cases h2
      | io _ => cases h2
    · rw [l3 i hi] at q
      obtain ⟨v, h1, h2⟩ := R.val i d q
      exact ⟨v, h1, h2.mono k⟩
  · by_cases hi : i ∈ refs as
    · obtain ⟨c, s, h1, h2, h3, m⟩ := at_ref i hi
      rw [q] at h2
      cases s with
      | emp => cases m
      | val _ => cases m
      | io _ => cases h2
      | own f =>
        cases h2
        obtain ⟨a, g1, g2, g3, _⟩ := R.own i f h1
        rw [adr_of g1] at h3
        exact ⟨a, g1, hO a g2, g3, h3⟩
    · rw [l3 i hi] at q
      obtain ⟨a, g1, g2, g3, g4⟩ := R.own i d q
      exact ⟨a, g1, hO a g2, g3, other i a d hi g1 (by rw [q]; rfl) g4⟩
  · by_cases hi : i ∈ refs as
    · obtain ⟨c, s, h1, h2, h3, m⟩ := at_ref i hi
      rw [q] at h2
      cases s with
      | emp => cases m
      | val _ => cases m
      | own _ => cases h2
      | io f =>
        cases h2
        obtain ⟨a, g1, g2, _⟩ := R.io i f h1
        rw [adr_of g1] at h3
        exact ⟨a, g1, g2, h3⟩
    · rw [l3 i hi] at q
      obtain ⟨a, g1, g2, g4⟩ := R.io i d q
      exact ⟨a, g1, g2, other i a d hi g1 (by rw [q]; rfl) g4⟩
  · obtain ⟨s', e1⟩ := own_of i s q1
    obtain ⟨t', e2⟩ := own_of j t q2
    exact R.dis i j a s' t' e1 e2 q3 q4
  · refine fr b o (fun m => ?_) (R.fr b o h1 h2)
    obtain ⟨i, hi, e⟩ := List.mem_map.mp m
    obtain ⟨d, hd⟩ := Option.isSome_iff_exists.mp (isM i hi)
    obtain ⟨a, g1, g2, _, g3⟩ := R.mu hd
    rw [adr_of g1] at e
    subst e
    rcases g3 with z | z
    · exact h1 z
    · rcases R.ofr _ g2 with y | y
      · exact z y
      · rw [y] at h2; cases h2
  · rcases hn a h with z | ⟨z, _⟩
    · exact R.ofr a z
    · exact .inr (R.fresh z).2.2
  · rcases hn a h with z | ⟨_, z⟩
    · by_cases hm : a ∈ (refs as).map (adr σ)
      · obtain ⟨n, hn'⟩ := List.mem_iff_getElem?.mp hm
        obtain ⟨c, _, h3⟩ := paired_at cs_ok hn'
        exact h3.there
      · obtain ⟨o, h1, h2⟩ := R.odom a z
        exact ⟨o, fr a o hm h1, h2⟩
    · exact z
theorem call_args {Φ : Nat → Fn} {i : Nat} {m : List Bool} {es : List E} {Q : VK} (hm : m.length = es.length) (h : tE P W Φ (.call i m es) σ H Q) : tArgs P W (fun ρ => evCs Φ m es ρ) σ H fun vs H1 => spF P.G m (Φ i) vs H1 Q (WE W σ) := by
  obtain ⟨O, ρ, R, a⟩ := h
  refine ⟨O, ρ, R, ?_⟩
  have a2 : Aft P W σ O H ((evCs Φ m es ρ).bind (callR Φ i)) fun s ρ' O' H' => ∀ v, RepR P O' ρ' σ H' v s → Q v H' := a
  show Aft P W σ O H (evCs Φ m es ρ) fun as ρ' O' H' => ∀ vs, ArgsAt P σ O' H' vs as → spF P.G m (Φ i) vs H' Q (WE W σ)
  cases e : evCs Φ m es ρ with
  | bad => rw [e] at a2; exact a2
  | exc c x ρ' => rw [e] at a2; exact a2
  | ok p =>
    obtain ⟨as, ρ1⟩ := p
    have mt := evCs_match hm e
    rw [e] at a2
    intro O1 H1 R1 e1 vs hv
    replace a2 : Aft P W σ O H (callR Φ i (as, ρ1)) fun s ρ' O' H' => ∀ v, RepR P O' ρ' σ H' v s → Q v H' := a2
    have q := a2.mono e1
    unfold callR at q
    split at q
    · rename_i ds hds
      split at q
      · rename_i nd
        obtain ⟨k1, k2⟩ := args_ok R1 0 hv hds
        have mt' : as.map Arg.isRef = m := mt
        rw [mt'] at k1 k2
        refine ⟨O1, ds, k1, by rw [k2]; exact nodup_adr R1 nd (gets_mu hds), R1.odom, ?_⟩
        rw [k2]
        cases f : Φ i ds with
        | bad => rw [f] at q; exact q
        | exc c x cs =>
          rw [f] at q
          intro cv d H' fr cs_ok ex
          cases hset : setIos as cs ρ1 with
          | none => simp only [hset] at q; exact q.elim
          | some ρ2 =>
            simp only [hset] at q
            have R2 : Rel P O1 ρ2 σ H' := R1.after hds nd hset fr (fun _ h => h) (fun _ h => .inl h) cs_ok
            refine q O1 H' cv d R2 (fun b o h1 h2 => ⟨h1, fr b o (fun z => ?_) h2⟩) ex
            obtain ⟨j, hj, rfl⟩ := List.mem_map.mp z
            obtain ⟨d, hd⟩ := Option.isSome_iff_exists.mp (gets_mu hds j hj)
            obtain ⟨a, g1, g2, _⟩ := R1.mu hd
            rw [adr_of g1] at h1
            exact h1 g2
        | ok p =>
          obtain ⟨s, cs⟩ := p
          rw [f] at q
          intro v H' fr rt
          cases hset : setIos as cs ρ1 with
          | none => simp only [hset] at q; exact q.elim
          | some ρ2 =>
            simp only [hset] at q
            have inO : ∀ b, b ∈ (refs as).map (adr σ) → b ∈ O1 := fun b z => by
              obtain ⟨j, hj, rfl⟩ := List.mem_map.mp z
              obtain ⟨d, hd⟩ := Option.isSome_iff_exists.mp (gets_mu hds j hj)
              obtain ⟨a, g1, g2, _⟩ := R1.mu hd
              rw [adr_of g1]; exact g2
            cases s with
            | val d =>
              obtain ⟨r1, r2⟩ := rt
              have R2 : Rel P O1 ρ2 σ H' := R1.after hds nd hset fr (fun _ h => h) (fun _ h => .inl h) r2
              exact q O1 H' R2 (fun b o h1 h2 => ⟨h1, fr b o (fun z => h1 (inO b z)) h2⟩) v r1
            | own d =>
              obtain ⟨a, rfl, hn, r1, r2⟩ := rt
              obtain ⟨f1, f2, f3⟩ := R1.fresh hn
              have R2 : Rel P (a :: O1) ρ2 σ H' := R1.after hds nd hset fr (fun _ h => List.mem_cons_of_mem _ h) (fun b h => (List.mem_cons.mp h).elim (fun z => .inr (by subst z; exact ⟨hn, r1.there⟩)) .inl) r2
              refine q (a :: O1) H' R2 (fun b o h1 h2 => ⟨?_, fr b o (fun z => h1 (inO b z)) h2⟩) _ ⟨a, rfl, List.mem_cons_self, f2, fun j d' e' z => ?_, r1⟩
              · have hb : b ≠ a := ne_of_none h2 hn
                simp [hb, h1]
              · -- an own name holds an old object
                have own_old : ∃ u', ρ1[j]? = some (.own u') := by
                  obtain ⟨_, _, l3, l4⟩ := setIos_spec hset nd
                  by_cases hj : j ∈ refs as
                  · obtain ⟨n, hn'⟩ := List.mem_iff_getElem?.mp hj
                    have h1 : ((refs as).map (adr σ))[n]? = some (adr σ j) := by rw [List.getElem?_map, hn']; rfl
                    obtain ⟨c, h2, _⟩ := paired_at r2 h1
                    have := l4 n j c hn' h2
                    have e'' : ρ2[j]? = some (.own d') := e'
                    rw [e''] at this
                    cases g : ρ1[j]? with
                    | none => rw [g] at this; cases this
                    | some s =>
                      rw [g] at this
                      cases s with
                      | own f => exact ⟨f, rfl⟩
                      | emp => cases this
                      | val _ => cases this
                      | io _ => cases this
                  · exact ⟨d', by rw [← l3 j hj]; exact e'⟩
                obtain ⟨u', hu'⟩ := own_old
                obtain ⟨b, g1, g2, _⟩ := R1.own j u' hu'
                rw [z] at g1; cases g1
                exact f1 g2
            | emp => exact rt.elim
            | io _ => exact rt.elim
      · exact q.elim
    · exact q.elim
end
end DL
namespace DL
open PySem L2

/-! ## from the text to codes -/
structure FnS where
  name : Str
  mask : List Bool
structure Ctx where
  N : List Str
  sc : Scope
  fn : Str → Bool
  M : List Str
  fs : List FnS
  cs : List (Str × D)
  bs : List Str
  ds : List (Str × List (Str × Int))

def ixOf : List Str → Str → Option Nat
  | [], _ => none
  | y :: r, x => if y = x then some 0 else (ixOf r x).map (· + 1)
theorem ixOf_at : ∀ {N : List Str} {x : Str} {i : Nat}, ixOf N x = some i → N[i]? = some x
  | [], _, _, h => by cases h
  | y :: r, x, i, h => by
    unfold ixOf at h
    split at h
    · rename_i e; cases h; simp [e]
    · obtain ⟨j, e, rfl⟩ := Option.map_eq_some_iff.mp h
      simpa using ixOf_at e
def fnIx : List FnS → Str → Option (Nat × FnS)
  | [], _ => none
  | f :: r, x => if f.name = x then some (0, f) else (fnIx r x).map fun p => (p.1 + 1, p.2)
theorem fnIx_at : ∀ {N : List FnS} {x : Str} {i : Nat} {f : FnS}, fnIx N x = some (i, f) → N[i]? = some f ∧ f.name = x
  | [], _, _, _, h => by cases h
  | y :: r, x, i, f, h => by
    unfold fnIx at h
    split at h
    · rename_i e; cases h; exact ⟨rfl, e⟩
    · obtain ⟨⟨j, g⟩, e, e2⟩ := Option.map_eq_some_iff.mp h
      cases e2
      simpa using fnIx_at e
def Ctx.vis (Γ : Ctx) (x : Str) : Bool := match Γ.sc.names.lookup x with
  | some .local => true
  | some .cell => true
  | some .free => true
  | _ => false
def Ctx.gl (Γ : Ctx) (x : Str) : Bool := (match Γ.sc.names.lookup x with
  | some .globalImplicit => true
  | _ => false) && !(x == ("__debug__" : Str)) && !(x == ("__name__" : Str))
def Ctx.asgn (Γ : Ctx) (x : Str) : Bool := match Γ.sc.names.lookup x with
  | some .local => true
  | some .cell => Γ.fn x
  | _ => false
def Ctx.bi (Γ : Ctx) (x : Str) : Bool := Γ.gl x && Γ.bs.contains x
def nameE (Γ : Ctx) (x : Str) : Option E :=
  if x == ("__debug__" : Str) || x == ("__classdict__" : Str) then none
  else if Γ.vis x then (ixOf Γ.N x).map .var
  else if Γ.gl x then (Γ.cs.lookup x).map .lit
  else none
def dictOf (Γ : Ctx) : Expr → Option (List (Str × Int))
  | .Name x _ => if Γ.gl x then Γ.ds.lookup x else none
  | _ => none
def inOp (kvs : List (Str × Int)) : CmpOp → Option Op
  | .In => some (.inK kvs false)
  | .NotIn => some (.inK kvs true)
  | _ => none
def litE : Const → Option E
  | .none => some (.lit .non)
  | .bool b => some (.lit (.bl b))
  | .int i => some (.lit (.int i))
  | .str s => some (.lit (.str s))
  | _ => none
def tstE : E → E
  | .var i => .op .tru [.var i]
  | e => e
def notE (t : E) : E := .ife t (.lit (.bl false)) (.lit (.bl true))
def plainCmp : CmpOp → Bool
  | .In => false
  | .NotIn => false
  | _ => true
def isDisp : Expr → Bool
  | .Set .. => true
  | _ => false
/-- a built-in by its name, of one argument -/
def bi1T : List (Str × Op) := [("len", .len), ("int", .int), ("abs", .abs), ("all", .all), ("any", .any), ("sum", .sum), ("max", .max), ("min", .min), ("tuple", .tuple), ("list", .list), ("repr", .repr)]
def bi1 (x : Str) : Option Op := bi1T.lookup x
def bi2T : List (Str × Op) := [("max", .max), ("min", .min)]
def bi2 (x : Str) : Option Op := bi2T.lookup x
def tyT : List (Str × String) := [("int", "int"), ("bool", "bool"), ("str", "str"), ("tuple", "tuple"), ("list", "list")]
def tyName (x : Str) : Option String := tyT.lookup x
def ownOf (N : List Str) (scope : Scope) : List (Str × Nat) := scope.names.filterMap fun y => match y.2 with
  | .local => (ixOf N y.1).map fun i => (y.1, i)
  | .cell => (ixOf N y.1).map fun i => (y.1, i)
  | _ => none
def Ctx.blk (Γ : Ctx) (scope : Scope) : Ctx := { Γ with sc := relS scope Γ.sc, fn := fun x => scope.names.lookup x == some .cell }
def tgtE : Nat → Ctx → Expr → Option T
  | 0, _, _ => none
  | n + 1, Γ, e => match e with
    | .Name x _ => if Γ.asgn x then (ixOf Γ.N x).map fun i => .name i (Γ.M.contains x) else none
    | .Tuple es _ _ => if es.all nst then (es.mapM (tgtE n Γ)).map .tup else none
    | _ => none
def tupTarget : Expr → Bool
  | .Tuple .. => true
  | _ => false
def notComp : Expr → Bool
  | .ListComp .. => false
  | .SetComp .. => false
  | .DictComp .. => false
  | _ => true
def mapO {α β : Type} (f : α → Option β) : List α → Option (List β)
  | [] => some []
  | a :: r => match f a, mapO f r with
    | some b, some bs => some (b :: bs)
    | _, _ => none
def optE (f : Expr → Option E) : Option Expr → Option (Option E)
  | none => some none
  | some e => (f e).map some
/-- what a for walks -/
def srcE (f : Expr → Option E) (Γ : Ctx) (tg : Expr) (it : Expr) : Option (Sk × List E) := match it with
  | .Call (.Name x _) [a] [] _ =>
    if x = "range" then (if nst a && Γ.bi x then (f a).map fun c => (.rng, [c]) else none)
    else if x = "enumerate" then (if nst a && Γ.bi x && tupTarget tg then (f a).map fun c => (.enum, [c]) else none)
    else (f it).map fun c => (.it, [c])
  | .Call (.Name x _) [a, b] [] _ =>
    if x = "range" then (if nst a && nst b && Γ.bi x then match f a, f b with
      | some c, some d => some (.rng, [c, d])
      | _, _ => none else none)
    else if x = "zip" then (if nst a && nst b && Γ.bi x && tupTarget tg then match f a, f b with
      | some c, some d => some (.zip, [c, d])
      | _, _ => none else none)
    else (f it).map fun c => (.it, [c])
  | it => (f it).map fun c => (.it, [c])
mutual
def T.inn (vs : List Nat) : T → Bool
  | .name i _ => vs.contains i
  | .tup ts => T.inns vs ts
def T.inns (vs : List Nat) : List T → Bool
  | [] => true
  | t :: r => t.inn vs && T.inns vs r
end
/-- an expression; where it is asked for its truth (tst), a name is not let known -/
def cmpE : Nat → Ctx → Bool → Expr → Option E
  | 0, _, _, _ => none
  | n + 1, Γ, tst, e => match e with
    | .Constant c _ _ => litE c
    | .Name x _ => (nameE Γ x).map fun c => if tst then tstE c else c
    | .BinOp a o b _ => match cmpE n Γ false a, cmpE n Γ false b with
      | some a', some b' => some (.op (.bin o) [a', b'])
      | _, _ => none
    | .UnaryOp .USub a _ => (cmpE n Γ false a).map fun c => .op .neg [c]
    | .UnaryOp .Not (.Name x q) _ => (cmpE n Γ true (.Name x q)).map notE
    | .UnaryOp .Not a _ => (cmpE n Γ tst a).map notE
    | .BoolOp .And [a] _ => cmpE n Γ tst a
    | .BoolOp .Or [a] _ => cmpE n Γ tst a
    | .BoolOp .And (a :: b :: r) p => match cmpE n Γ tst a, cmpE n Γ tst (.BoolOp .And (b :: r) p) with
      | some a', some b' => some (.and a' b')
      | _, _ => none
    | .BoolOp .Or (a :: b :: r) p => match cmpE n Γ tst a, cmpE n Γ tst (.BoolOp .Or (b :: r) p) with
      | some a', some b' => some (.or a' b')
      | _, _ => none
    | .IfExp t a b _ => if tst then none else match cmpE n Γ true t, cmpE n Γ false a, cmpE n Γ false b with
      | some t', some a', some b' => some (.ife t' a' b')
      | _, _, _ => none
    | .Compare a [o] [b] _ => if isDisp b then none else match dictOf Γ b with
      | some kvs => match inOp kvs o, cmpE n Γ false a with
        | some op, some a' => some (.op op [a'])
        | _, _ => none
      | none => match cmpE n Γ false a, cmpE n Γ false b with
      | some a', some b' => some (.op (.cmp o) [a', b'])
      | _, _ => none
    | .Compare a [o, o2] [b, c] _ => if plainCmp o && plainCmp o2 then match cmpE n Γ false a, cmpE n Γ false b, cmpE n Γ false c with
        | some a', some b', some c' => some (.chain a' o b' o2 c')
        | _, _, _ => none
      else none
    | .Tuple es _ _ => if es.all nst then (mapO (cmpE n Γ false) es).map fun cs => .mk .tup cs else none
    | .List es _ => if es.all nst then (mapO (cmpE n Γ false) es).map fun cs => .mk .lst cs else none
    | .Subscript a (.Slice lo hi none _) _ => match cmpE n Γ false a, optE (cmpE n Γ false) lo, optE (cmpE n Γ false) hi with
      | some a', some lo', some hi' => some (.op (.sl lo'.isSome hi'.isSome) (a' :: ((lo'.toList ++ hi'.toList).map fun c => .op .ck [c])))
      | _, _, _ => none
    | .Subscript _ (.Slice ..) _ => none
    | .Subscript a i _ => match dictOf Γ a with
      | some kvs => (cmpE n Γ false i).map fun c => .op (.ixK kvs) [c]
      | none => match cmpE n Γ false a, cmpE n Γ false i with
      | some a', some i' => some (.op .ix [a', i'])
      | _, _ => none
    | .Call (.Name f _) args [] _ =>
      if !args.all nst then none
      else match fnIx Γ.fs f with
      | some (i, g) => if Γ.gl f && g.mask.length == args.length then (mapO (cmpE n Γ false) args).map fun cs => .call i g.mask cs else none
      | none => if !Γ.bi f then none
        else if f = "isinstance" then match args with
          | [a, .Name ty _] => if Γ.bi ty then match tyName ty, cmpE n Γ false a with
              | some t, some a' => some (.op (.isi t) [a'])
              | _, _ => none
            else none
          | _ => none
        else match args with
        | [a] => match bi1 f, cmpE n Γ false a with
          | some o, some a' => some (.op o [a'])
          | _, _ => none
        | [a, b] => match bi2 f, cmpE n Γ false a, cmpE n Γ false b with
          | some o, some a', some b' => some (.op o [a', b'])
          | _, _, _ => none
        | _ => none
    | .Call (.Attribute (.Name x _) m apos) [a] [] cpos =>
      if !(nst a && Γ.vis x && (apos.endLine == cpos.line) && !(x == ("__debug__" : Str)) && !(x == ("__classdict__" : Str))) then none else match ixOf Γ.N x, cmpE n Γ false a with
        | some i, some a' => if m = "append" then some (.mu .append i [a']) else if m = "extend" then some (.mu .extend i [a']) else none
        | _, _ => none
    | .Call (.Attribute (.Name x _) m apos) [] [] cpos =>
      if !(Γ.vis x && (apos.endLine == cpos.line) && !(x == ("__debug__" : Str)) && !(x == ("__classdict__" : Str))) then none else match ixOf Γ.N x with
        | some i => if m = "pop" then some (.mu .pop i []) else none
        | _ => none
    | .ListComp elt [⟨tg, it, ifs, 0⟩] scope _ =>
      if !(blkC Γ.N Γ.sc scope (ownOf Γ.N scope)) || ifs.length > 1 || isDisp it then none else
      match tgtE n (Γ.blk scope) tg, srcE (cmpE n Γ false) Γ tg it, mapO (cmpE n (Γ.blk scope) true) ifs, cmpE n (Γ.blk scope) false elt with
        | some t, some (k, src), some ifs', some elt' => if t.inn ((ownOf Γ.N scope).map (·.2)) then some (.lc ((ownOf Γ.N scope).map (·.2)) t k src ifs' elt') else none
        | _, _, _, _ => none
    | _ => none
end DL
namespace DL
open PySem L2

/-- what the place knows -/
structure CalOk (X : Cx) (P : Pm) (k : Nat) (F : Fn) (f : FnS) : Prop where
  at_ : ∃ a, X.mg f.name = some (.ref a) ∧ PySem.W.keepIn X.K (.ref a) = true ∧ P.G.fa f.name = some a ∧ FnG X.prog X.w X.K X.mg X.base k a f.mask.length (spF P.G f.mask F)
/-- a written dict's entries -/
inductive EntRel : List DictEntry → List (Str × Int) → Prop
  | nil : EntRel [] []
  | cons {e : DictEntry} {es : List DictEntry} {x : Str} {i : Int} {kvs : List (Str × Int)} : (∃ t, e.key = .str x t) → (∃ t, e.val = .int i t) → EntRel es kvs → EntRel (e :: es) ((x, i) :: kvs)
/-- at a: a written dict, texts to whole numbers -/
structure WD (K : PySem.W.Frag) (w : World) (a : Addr) (kvs : List (Str × Int)) : Prop where
  ex : ∃ es n, KDict K w a es n ∧ EntRel es.toList kvs
structure Ok (X : Cx) (W : WX) (P : Pm) (Γ : Ctx) (Φ : Nat → Fn) (k : Nat) : Prop where
  N : X.N = Γ.N
  nd : Γ.N.Nodup
  sc : X.env.scope = Γ.sc
  fn : ∀ x, Γ.fn x = true → X.fn x = true
  calm : X.calm = true
  gd : X.A.guards = some []
  room : Room k X.A
  K : P.G.K = X.K
  tk : Takes X W
  po : PassesOwn (model X.prog X.w) X.A X.env X.xe
  bs : ∀ x, Γ.bs.contains x = true → X.mg x = none
  cs : ∀ x d, Γ.cs.lookup x = some d → ∃ u v, X.mg x = some u ∧ RelV v u ∧ ∀ H, Rep P.G H v d
  ds : ∀ x kvs, Γ.ds.lookup x = some kvs → ∃ a, X.mg x = some (.ref a) ∧ WD X.K X.w a kvs
  fs : ∀ (i : Nat) (f : FnS), Γ.fs[i]? = some f → CalOk X P k (Φ i) f
section
variable {X : Cx} {W : WX} {P : Pm} {Γ : Ctx} {Φ : Nat → Fn} {k : Nat}
theorem Ok.un (ok : Ok X W P Γ Φ k) : X.A.units + 70 < cLine := by have := ok.room.un; omega
theorem Ok.pm (ok : Ok X W P Γ Φ k) {P' : Pm} (h : P'.G = P.G) : Ok X W P' Γ Φ k :=
  ⟨ok.N, ok.nd, ok.sc, ok.fn, ok.calm, ok.gd, ok.room, by rw [h]; exact ok.K, ok.tk, ok.po, ok.bs, fun x d e => by rw [h]; exact ok.cs x d e, ok.ds, fun i f e => ⟨by
    obtain ⟨a, h1, h2, h3, h4⟩ := (ok.fs i f e).at_
    exact ⟨a, h1, h2, by rw [h]; exact h3, by rw [h]; exact h4⟩⟩⟩
abbrev W0 : WX := fun _ _ _ _ => False
theorem Ok.blk (ok : Ok X W P Γ Φ k) (scope : Scope) (s : Shared) (H : Hp) (C : Addr) (cl : List (Str × Addr)) (fp : List Addr) : Ok (X.blk s H scope (compEnvC scope cl C X.env) fp) W0 P (Γ.blk scope) Φ k :=
  ⟨ok.N, ok.nd, by show relS scope X.env.scope = _; rw [ok.sc]; rfl, fun x h => h, ok.calm, ok.gd, ok.room, ok.K, takes0, PassesOwn.never, ok.bs, ok.cs, ok.ds, fun i f e => ⟨(ok.fs i f e).at_⟩⟩
theorem Ok.glob (ok : Ok X W P Γ Φ k) {x : Str} (h : Γ.gl x = true) : Gl X x ∧ (x == ("__debug__" : Str)) = false ∧ x ≠ "__name__" := by
  unfold Ctx.gl at h
  simp only [Bool.and_eq_true, Bool.not_eq_true'] at h
  refine ⟨?_, h.1.2, fun e => ?_⟩
  · show X.env.scope.names.lookup x = _
    rw [ok.sc]
    have h1 := h.1.1
    split at h1
    · assumption
    · cases h1
  · have := h.2
    rw [e] at this
    revert this; decide
theorem Ok.vis (ok : Ok X W P Γ Φ k) {x : Str} (h : Γ.vis x = true) : Vis X.env.scope x := by
  unfold Ctx.vis at h
  unfold Vis
  rw [ok.sc]
  split at h
  · left; assumption
  · right; left; assumption
  · right; right; assumption
  · cases h
theorem Ok.bi (ok : Ok X W P Γ Φ k) {x : Str} (h : Γ.bi x = true) : Gl X x ∧ (x == ("__debug__" : Str)) = false ∧ x ≠ "__name__" ∧ X.mg x = none := by
  unfold Ctx.bi at h
  rw [Bool.and_eq_true] at h
  obtain ⟨h1, h2, h3⟩ := ok.glob h.1
  exact ⟨h1, h2, h3, ok.bs x h.2⟩

/-! ### names, written values -/
abbrev tT (P : Pm) (W : WX) (Φ : Nat → Fn) (c : E) : TT := tB P W fun ρ => tru (rel (ev Φ c ρ))
theorem pe_lit {e : Expr} {v : V} {d : D} (h : PE X e (tC v)) (r : ∀ H, Rep P.G H v d) : PE X e (tE P W Φ (.lit d)) := h.weak fun σ H Q ⟨O, ρ, R, a⟩ => Aft.now (P := P) (W := W) (α := Slot) a R v (r _)
theorem Rel.look {P : Pm} {O : List Addr} {ρ : Sts} {σ : St} {H : Hp} (R : Rel P O ρ σ H) {i : Nat} {s : Slot} (h : ρ[i]? = some s) (hs : s ≠ .emp) : ∃ v, σ[i]? = some (some v) := by
  cases s with
  | emp => exact absurd rfl hs
  | val d => obtain ⟨v, h1, _⟩ := R.val i d h; exact ⟨v, h1⟩
  | own d => obtain ⟨v, h1, _⟩ := R.own i d h; exact ⟨_, h1⟩
  | io d => obtain ⟨v, h1, _⟩ := R.io i d h; exact ⟨_, h1⟩
/-- a name as an operand: lent, or let known -/
theorem name_arg {e : Expr} {i : Nat} (h : PE X e (tVar i)) : PE X e (tArg P W fun ρ => bw (.var i) ρ (rel (ev Φ (.var i) ρ))) := h.weak fun σ H Q ⟨O, ρ, R, a⟩ => by
  show ∃ v, σ[i]? = some (some v) ∧ Q v H
  replace a : Aft P W σ O H (if isOwn ρ i then .ok (.ref i, ρ) else (rel (getv ρ i)).map fun p => (Arg.dat p.1, p.2)) fun a ρ' O' H' => ∀ v, ArgAt P σ O' H' v a → Q v H' := a
  split at a
  · rename_i c
    unfold isOwn at c
    obtain ⟨d, hd⟩ := Option.isSome_iff_exists.mp c
    obtain ⟨b, h1, _⟩ := R.mu hd
    exact ⟨_, h1, Aft.now a R _ h1⟩
  · rename_i c
    unfold getv at a
    split at a
    · rename_i d e1
      obtain ⟨v, h1, h2⟩ := R.val i d e1
      exact ⟨v, h1, Aft.now (P := P) (W := W) (α := Arg) a R v h2⟩
    · rename_i d e1
      exact absurd (by unfold isOwn; rw [e1]; rfl) c
    · exact a.elim
theorem name_e {e : Expr} {i : Nat} (h : PE X e (tVar i)) : PE X e (tE P W Φ (.var i)) := h.weak fun σ H Q ⟨O, ρ, R, a⟩ => by
  show ∃ v, σ[i]? = some (some v) ∧ Q v H
  replace a : Aft P W σ O H (getv ρ i) fun s ρ' O' H' => ∀ v, RepR P O' ρ' σ H' v s → Q v H' := a
  unfold getv at a
  split at a
  · rename_i d e1
    obtain ⟨v, h1, h2⟩ := R.val i d e1
    exact ⟨v, h1, Aft.now (P := P) (W := W) (α := Slot) a R v h2⟩
  · rename_i d e1
    obtain ⟨O', v, R', x, h1, h2⟩ := R.free e1
    exact ⟨v, h1, a O' H R' x v h2⟩
  · exact a.elim
theorem isEmpty_reps {G : Gx} {H : Hp} {vs : List V} {ds : List D} (r : Reps G H vs ds) : ds.isEmpty = vs.isEmpty := by
  cases r <;> rfl
theorem truV {G : Gx} {H : Hp} {v : V} {d : D} {b : Bool} (hK : G.K = X.K) (r : Rep G H v d) (h : truth d = some b) : TruV X.K v H b := by
  have hs : sizeLine = 16777216 := sizeLine_eq
  cases r with
  | non => cases h; rfl
  | bl c => cases h; rfl
  | int i => cases h; rfl
  | str z =>
    replace h : (if z.length ≤ Line then some (z.length != 0) else none) = some b := h
    split at h
    · rename_i c
      cases h
      refine ⟨by rw [hs]; exact c, ?_⟩
      rw [Bool.eq_iff_iff]; simp
    · cases h
  | lst q r =>
    cases h
    exact .inl ⟨_, .of q, by rw [isEmpty_reps r]⟩
  | tup q r =>
    cases h
    exact .inr (.inl ⟨_, hK ▸ q, by rw [isEmpty_reps r]⟩)
  | rol q r => cases h
  | fn _ => cases h
  | ty _ => cases h
theorem val_rd {c : E} {σ : St} {H : Hp} {Q : Bool → Hp → Prop} (hK : P.G.K = X.K) (h : tT P W Φ c σ H Q) : tV P W (fun ρ => rel (ev Φ c ρ)) σ H fun v H' => ∃ b, TruV X.K v H' b ∧ Q b H' := by
  obtain ⟨O, ρ, Z, a⟩ := h
  refine ⟨O, ρ, Z, ?_⟩
  have a2 : Aft P W σ O H ((rel (ev Φ c ρ)).bind fun p => match truth p.1 with
    | some b => .ok (b, p.2)
    | none => .bad) fun b ρ' O' H' => Q b H' := a
  refine a2.bind.imp fun d ρ1 O1 H1 R1 _ q v rv => ?_
  dsimp only at q
  split at q
  · rename_i b hb
    exact ⟨b, truV hK rv.full hb, Aft.now q R1⟩
  · exact q.elim
/-- truth by the value -/
theorem pt_val' {e : Expr} {c : E} (hK : P.G.K = X.K) (h : PE X e (tE P W Φ c)) (he : ∀ whole, isTrue e X.env whole = (do let v ← whole; standAt e.pos; holding [v] (truthy v))) : PT X e (tT P W Φ c) :=
  (pt_truth (tV_of h) he).weak fun σ H Q h => val_rd hK h
theorem tst_eq {i : Nat} {ρ : Sts} : tru (rel (ev Φ (tstE (.var i)) ρ)) = (bw (.var i) ρ (rel (ev Φ (.var i) ρ))).bind fun p => (opR .tru ([p.1], p.2)).bind fun q => match truth q.1.d with
    | some b => .ok (b, q.2)
    | none => .bad := by
  show tru (rel (((bw (.var i) ρ (rel (ev Φ (.var i) ρ))).bind fun p => (evBs Φ [] p.2).map fun q => (p.1 :: q.1, q.2)).bind (opR .tru))) = _
  cases bw (.var i) ρ (rel (ev Φ (.var i) ρ)) with
  | exc _ _ _ => rfl
  | bad => rfl
  | ok p =>
    show tru (rel (opR .tru ([p.1], p.2))) = (opR .tru ([p.1], p.2)).bind _
    cases opR .tru ([p.1], p.2) <;> rfl
theorem tst_rd {i : Nat} {σ : St} {H : Hp} {Q : Bool → Hp → Prop} (hK : P.G.K = X.K) (h : tT P W Φ (tstE (.var i)) σ H Q) : tArg P W (fun ρ => bw (.var i) ρ (rel (ev Φ (.var i) ρ))) σ H fun v H' => ∃ b, TruV X.K v H' b ∧ Q b H' := by
  obtain ⟨O, ρ, Z, a⟩ := h
  refine ⟨O, ρ, Z, ?_⟩
  dsimp only at a
  rw [tst_eq] at a
  refine a.bind.imp fun ar ρ1 O1 H1 R1 _ q v rv => ?_
  dsimp only at q
  unfold opR at q
  split at q
  · rename_i ds hds
    have rx := args_get R1 (.cons rv .nil) hds
    obtain ⟨w, ew, hw⟩ : ∃ d, ds = [d] ∧ RepX P.G O1 H1 v d := by
      cases rx with
      | cons h r => cases r; exact ⟨_, rfl, h⟩
    subst ew
    cases ht : truth w with
    | none =>
      have e : opf .tru [w] = none := by show b1 (truth w) = none; rw [ht]; rfl
      rw [e] at q; exact q.elim
    | some b =>
      have e : opf .tru [w] = some (.val (.bl b)) := by show b1 (truth w) = _; rw [ht]; rfl
      rw [e] at q
      exact ⟨b, truV hK hw.full ht, Aft.now (P := P) (W := W) (α := Bool) q R1⟩
  · exact q.elim
/-- a name asked for its truth -/
theorem pt_name {x : Str} {p : Pos} {i : Nat} (hK : P.G.K = X.K) (h : PE X (.Name x p) (tVar i)) : PT X (.Name x p) (tT P W Φ (tstE (.var i))) :=
  (pt_truth (name_arg (P := P) (W := W) (Φ := Φ) h) (fun _ => rfl)).weak fun σ H Q h => tst_rd hK h
end
end DL
namespace DL
open PySem L2
section
variable {X : Cx} {W : WX} {P : Pm} {Φ : Nat → Fn} {σ : St} {H : Hp}
theorem tArg.imp {r : Sts → R Sts (Arg × Sts)} {Q Q' : VK} (h : tArg P W r σ H Q) (k : ∀ v H', Q v H' → Q' v H') : tArg P W r σ H Q' := by
  obtain ⟨O, ρ, R, a⟩ := h
  exact ⟨O, ρ, R, a.imp fun _ _ _ _ _ _ q v rv => k _ _ (q v rv)⟩
theorem tV.imp {r : Sts → R Sts (D × Sts)} {Q Q' : VK} (h : tV P W r σ H Q) (k : ∀ v H', Q v H' → Q' v H') : tV P W r σ H Q' := by
  obtain ⟨O, ρ, R, a⟩ := h
  exact ⟨O, ρ, R, a.imp fun _ _ _ _ _ _ q v rv => k _ _ (q v rv)⟩
/-- an operand -/
abbrev argR (Φ : Nat → Fn) (c : E) : Sts → R Sts (Arg × Sts) := fun ρ => bw c ρ (rel (ev Φ c ρ))
theorem arg_of {e : Expr} {c : E} (h : PE X e (tE P W Φ c)) (hv : ∀ i, c = .var i → PE X e (tVar i)) : PE X e (tArg P W (argR Φ c)) := by
  by_cases hc : ∃ i, c = .var i
  · obtain ⟨i, rfl⟩ := hc
    exact name_arg (hv i rfl)
  · refine (tV_of h).weak fun σ H Q ⟨O, ρ, R, a⟩ => ⟨O, ρ, R, ?_⟩
    have e : argR Φ c ρ = (rel (ev Φ c ρ)).map fun p => (Arg.dat p.1, p.2) := by
      unfold argR bw
      cases c with
      | var i => exact absurd ⟨i, rfl⟩ hc
      | _ => rfl
    rw [e] at a
    exact (Aft.map (f := fun p : D × Sts => (Arg.dat p.1, p.2)) (fun _ => rfl) a).imp fun d _ _ _ _ _ q v rv => q v rv
/-- .. and its name -/
structure Snd (X : Cx) (P : Pm) (W : WX) (Φ : Nat → Fn) (e : Expr) (c : E) : Prop where
  pe : PE X e (tE P W Φ c)
  nm : ∀ i, c = .var i → PE X e (tVar i)
theorem Snd.arg {e : Expr} {c : E} (h : Snd X P W Φ e c) : PE X e (tArg P W (argR Φ c)) := arg_of h.pe h.nm
theorem Snd.v {e : Expr} {c : E} (h : Snd X P W Φ e c) : PE X e (tV P W fun ρ => rel (ev Φ c ρ)) := tV_of h.pe
theorem args2 {a b : E} {Q : List V → Hp → Prop} (h : tArgs P W (fun ρ => evBs Φ [a, b] ρ) σ H Q) : tArg P W (argR Φ a) σ H fun x H1 => tArg P W (argR Φ b) σ H1 fun y H2 => Q [x, y] H2 :=
  (args_cons h).imp fun _ _ h1 => (args_cons h1).imp fun _ _ h2 => args_nil h2
theorem args1 {a : E} {Q : List V → Hp → Prop} (h : tArgs P W (fun ρ => evBs Φ [a] ρ) σ H Q) : tArg P W (argR Φ a) σ H fun x H1 => Q [x] H1 :=
  (args_cons h).imp fun _ _ h1 => args_nil h1
variable {a b c : Expr} {ca cb cc : E} {pos : Pos}
theorem pe_bin {o : Operator} (hK : P.G.K = X.K) (ha : Snd X P W Φ a ca) (hb : Snd X P W Φ b cb) : PE X (.BinOp a o b pos) (tE P W Φ (.op (.bin o) [ca, cb])) :=
  (pe_op (opr_bin hK) ha.arg hb.arg).weak fun σ H Q h => args2 (op_args h)
theorem pe_neg (ha : Snd X P W Φ a ca) : PE X (.UnaryOp .USub a pos) (tE P W Φ (.op .neg [ca])) :=
  (pe_un un_neg ha.arg).weak fun σ H Q h => (args1 (op_args h)).imp fun v H1 h => by
    obtain ⟨O, ds, sl, hr, od, hg, q⟩ := h
    obtain ⟨x, d, e, rfl, h1, hg⟩ := hr.get1 hg (len1 (fun _ _ _ => by simp [opf]) rfl)
    cases e
    cases d with
    | int i => cases hg; exact ⟨i, h1.int, q _ _ (.vl (.int _))⟩
    | _ => cases hg
theorem not_marks {o : CmpOp} {b : Expr} (h : isDisp b = false) : behindInMarks o b = false := by
  cases b <;> first | rfl | cases h
theorem pe_cmpD {o : CmpOp} (hK : P.G.K = X.K) (hu : X.A.units + 70 < cLine) (hd : isDisp b = false) (ha : Snd X P W Φ a ca) (hb : Snd X P W Φ b cb) : PE X (.Compare a [o] [b] pos) (tE P W Φ (.op (.cmp o) [ca, cb])) :=
  (pe_cmpR (opr_cmp hK (by omega)) ha.arg hb.arg (not_marks hd)).weak fun σ H Q h => args2 (op_args h)
/-- the answer of a comparison is a truth value -/
theorem tru_bl {r : R Sts (Slot × Sts)} {O : List Addr} {ρ : Sts} {Q : Bool → Hp → Prop} (hr : ∀ p, r = .ok p → ∃ b, p.1 = .val (.bl b)) (h : Aft P W σ O H (tru (rel r)) fun b ρ' O' H' => Q b H') : Aft P W σ O H r fun s ρ' O' H' => ∀ v, RepR P O' ρ' σ H' v s → ∃ k, v = V.bl k ∧ Q k H' := by
  cases r with
  | ok p =>
    obtain ⟨b, hb⟩ := hr p rfl
    obtain ⟨s, ρ'⟩ := p
    cases hb
    intro O' H' R x v rv
    have rv' : Rep P.G (cut H' O') v (.bl b) := rv
    cases rv'
    exact ⟨b, rfl, h O' H' R x⟩
  | exc _ _ _ => exact h
  | bad => exact h
theorem op_bl {o : Op} (ho : ∀ ds s, opf o ds = some s → ∃ b, s = .val (.bl b)) {es : List E} {ρ : Sts} {p : Slot × Sts} (h : ev Φ (.op o es) ρ = .ok p) : ∃ b, p.1 = .val (.bl b) := by
  replace h : (evBs Φ es ρ).bind (opR o) = .ok p := h
  cases e : evBs Φ es ρ with
  | ok q =>
    rw [e] at h
    replace h : opR o q = .ok p := h
    unfold opR at h
    split at h
    · rename_i ds _
      cases f : opf o ds with
      | none => rw [f] at h; cases h
      | some s =>
        rw [f] at h
        cases h
        exact ho ds s f
    · cases h
  | exc _ _ _ => rw [e] at h; cases h
  | bad => rw [e] at h; cases h
theorem cmp_bl {o : CmpOp} : ∀ ds s, opf (.cmp o) ds = some s → ∃ b, s = .val (.bl b)
  | [], _, h => by cases h
  | [_], _, h => by simp [opf] at h
  | [a, b], _, h => by
    obtain ⟨x, _, e⟩ := b1_some (show b1 (cmpf o a b) = some _ from h)
    exact ⟨x, e⟩
  | _ :: _ :: _ :: _, _, h => by simp [opf] at h
theorem pt_cmpD {o : CmpOp} (hK : P.G.K = X.K) (hu : X.A.units + 70 < cLine) (hd : isDisp b = false) (ha : Snd X P W Φ a ca) (hb : Snd X P W Φ b cb) : PT X (.Compare a [o] [b] pos) (tT P W Φ (.op (.cmp o) [ca, cb])) :=
  (pt_cmpR (opr_cmp hK (by omega)) ha.arg hb.arg (not_marks hd)).weak fun σ H Q ⟨O, ρ, R, h⟩ => args2 (op_args (P := P) (W := W) (Φ := Φ) (Q := fun v H' => ∃ k, v = V.bl k ∧ Q k H') ⟨O, ρ, R, tru_bl (ρ := ρ) (fun p e => op_bl cmp_bl e) h⟩)
/-- comparisons of known values -/
def rC (G : Gx) (o : CmpOp) : R2 := fun x y H Q => ∃ O dx dy b, Rep G (cut H O) x dx ∧ Rep G (cut H O) y dy ∧ cmpf o dx dy = some b ∧ Q (.bl b) H
theorem opr_rC {o : CmpOp} (hK : P.G.K = X.K) (hu : X.A.units + 70 < cLine) : OpR X (compareOp o) (rC P.G o) := (opr_cmp0 (G := P.G) hK (by omega)).wk fun x y H Q ⟨O, dx, dy, b, h1, h2, e, q⟩ =>
  ⟨O, dx, dy, b, .inl h1, .inl h2, e, q⟩
theorem chain_marks {o o2 : CmpOp} {b c : Expr} (h : plainCmp o2 = true) : lastMarks [o, o2] [b, c] = false := by
  show behindInMarks o2 c = false
  exact nobehind c (by rintro rfl; cases h) (by rintro rfl; cases h)
/-- a op b op2 c, up to the end -/
theorem chain_rd {o o2 : CmpOp} {Q : VK} (h : tE P W Φ (.chain ca o cb o2 cc) σ H Q) :
    tChain (rC P.G o) (rC P.G o2) (tV P W fun ρ => rel (ev Φ ca ρ)) (tV P W fun ρ => rel (ev Φ cb ρ)) (tV P W fun ρ => rel (ev Φ cc ρ)) σ H Q := by
  obtain ⟨O, ρ, Z, a⟩ := h
  have a1 : Aft P W σ O H ((rel (ev Φ ca ρ)).bind fun p => (rel (ev Φ cb p.2)).bind fun q => match cmpf o p.1 q.1 with
    | some true => (rel (ev Φ cc q.2)).bind fun r => (R.ofO (cmpf o2 q.1 r.1)).map fun x => (.val (.bl x), r.2)
    | some false => .ok (.val (.bl false), q.2)
    | none => .bad) fun s ρ' O' H' => ∀ v, RepR P O' ρ' σ H' v s → Q v H' := a
  refine ⟨O, ρ, Z, a1.bind.imp fun dx ρ1 O1 H1 R1 e1 q1 v hv => ⟨O1, ρ1, R1, (Aft.bind q1).imp fun dy ρ2 O2 H2 R2 e2 q2 u hu => ?_⟩⟩
  dsimp only at q2
  have hv2 := e2.rep hv
  cases hc : cmpf o dx dy with
  | none => rw [hc] at q2; exact q2.elim
  | some k =>
    rw [hc] at q2
    refine ⟨O2, dx, dy, k, hv2, hu, hc, k, rfl, ?_⟩
    cases k with
    | false =>
      rw [if_neg Bool.false_ne_true]
      exact Aft.now (P := P) (W := W) (α := Slot) q2 R2 _ (.bl false)
    | true =>
      rw [if_pos rfl]
      refine ⟨O2, ρ2, R2, (Aft.bind q2).imp fun dz ρ3 O3 H3 R3 e3 q3 z hz => ?_⟩
      dsimp only at q3
      cases hc2 : cmpf o2 dy dz with
      | none => rw [hc2] at q3; exact q3.elim
      | some k2 =>
        rw [hc2] at q3
        exact ⟨O3, dy, dz, k2, e3.rep hu, hz, hc2, Aft.now (P := P) (W := W) (α := Slot) q3 R3 _ (.bl k2)⟩
theorem pe_chainD {o o2 : CmpOp} (hK : P.G.K = X.K) (hu : X.A.units + 70 < cLine) (hp : plainCmp o2 = true) (ha : Snd X P W Φ a ca) (hb : Snd X P W Φ b cb) (hc : Snd X P W Φ c cc) : PE X (.Compare a [o, o2] [b, c] pos) (tE P W Φ (.chain ca o cb o2 cc)) :=
  (pe_chain (opr_rC hK hu) (opr_rC hK hu) ha.v hb.v hc.v (chain_marks hp)).weak fun σ H Q h => chain_rd h
theorem chain_bl {o o2 : CmpOp} {ρ : Sts} {p : Slot × Sts} (h : ev Φ (.chain ca o cb o2 cc) ρ = .ok p) : ∃ b, p.1 = .val (.bl b) := by
  replace h : ((rel (ev Φ ca ρ)).bind fun p => (rel (ev Φ cb p.2)).bind fun q => match cmpf o p.1 q.1 with
    | some true => (rel (ev Φ cc q.2)).bind fun r => (R.ofO (cmpf o2 q.1 r.1)).map fun x => (.val (.bl x), r.2)
    | some false => .ok (.val (.bl false), q.2)
    | none => .bad) = .ok p := h
  cases e1 : rel (ev Φ ca ρ) with
  | ok x =>
    rw [e1, R.bind_ok] at h
    cases e2 : rel (ev Φ cb x.2) with
    | ok y =>
      rw [e2, R.bind_ok] at h
      split at h
      · cases e3 : rel (ev Φ cc y.2) with
        | ok z =>
          rw [e3, R.bind_ok] at h
          cases e4 : cmpf o2 y.1 z.1 with
          | some k => rw [e4] at h; cases h; exact ⟨k, rfl⟩
          | none => rw [e4] at h; cases h
        | exc _ _ _ => rw [e3] at h; cases h
        | bad => rw [e3] at h; cases h
      · cases h; exact ⟨false, rfl⟩
      · cases h
    | exc _ _ _ => rw [e2] at h; cases h
    | bad => rw [e2] at h; cases h
  | exc _ _ _ => rw [e1] at h; cases h
  | bad => rw [e1] at h; cases h
theorem pt_chainD {o o2 : CmpOp} (hK : P.G.K = X.K) (hu : X.A.units + 70 < cLine) (hp : plainCmp o2 = true) (ha : Snd X P W Φ a ca) (hb : Snd X P W Φ b cb) (hc : Snd X P W Φ c cc) : PT X (.Compare a [o, o2] [b, c] pos) (tT P W Φ (.chain ca o cb o2 cc)) :=
  (pt_chain (opr_rC hK hu) (opr_rC hK hu) ha.v hb.v hc.v (chain_marks hp)).weak fun σ H Q ⟨O, ρ, R, h⟩ => chain_rd (Q := fun v H' => ∃ k, v = V.bl k ∧ Q k H') ⟨O, ρ, R, tru_bl (ρ := ρ) (fun p e => chain_bl e) h⟩

/-! ### and, or, not, if -/
theorem tB.imp {r : Sts → R Sts (Bool × Sts)} {Q Q' : Bool → Hp → Prop} (h : tB P W r σ H Q) (k : ∀ v H', Q v H' → Q' v H') : tB P W r σ H Q' := by
  obtain ⟨O, ρ, R, a⟩ := h
  exact ⟨O, ρ, R, a.imp fun _ _ _ _ _ _ q => k _ _ q⟩
theorem tru_of {O : List Addr} {H : Hp} {ρ : Sts} {d : D} {Q : Bool → Hp → Prop} {k : Bool} (ht : truth d = some k) (h : Aft P W σ O H (tru (.ok (d, ρ))) fun b ρ' O' H' => Q b H') : Aft P W σ O H (.ok (k, ρ)) fun b ρ' O' H' => Q b H' := by
  have e : tru (.ok (d, ρ)) = .ok (k, ρ) := by
    show (match truth d with
      | some b => R.ok (b, ρ)
      | none => .bad) = _
    rw [ht]
  rw [e] at h; exact h
theorem pe_andD (hK : P.G.K = X.K) {r : List Expr} (ha : Snd X P W Φ a ca) (hb : PE X (.BoolOp .And (b :: r) pos) (tE P W Φ cb)) : PE X (.BoolOp .And (a :: b :: r) pos) (tE P W Φ (.and ca cb)) :=
  (pe_andT ha.v (tV_of hb)).weak fun σ H Q ⟨O, ρ, R, h⟩ => ⟨O, ρ, R, by
    have h1 : Aft P W σ O H ((rel (ev Φ ca ρ)).bind fun p => match truth p.1 with
      | some true => (rel (ev Φ cb p.2)).map fun q => (.val q.1, q.2)
      | some false => .ok (.val p.1, p.2)
      | none => .bad) fun s ρ' O' H' => ∀ v, RepR P O' ρ' σ H' v s → Q v H' := h
    refine h1.bind.imp fun d ρ1 O1 H1 R1 _ q v hv => ?_
    dsimp only at q
    split at q
    · rename_i ht
      refine ⟨true, truV hK hv.full ht, ?_⟩
      rw [if_pos rfl]
      exact ⟨O1, ρ1, R1, (Aft.map (f := fun q : D × Sts => (Slot.val q.1, q.2)) (fun _ => rfl) q)⟩
    · rename_i ht
      refine ⟨false, truV hK hv.full ht, ?_⟩
      rw [if_neg Bool.false_ne_true]
      exact Aft.now (P := P) (W := W) (α := Slot) q R1 v hv
    · exact q.elim⟩
theorem pe_orD (hK : P.G.K = X.K) {r : List Expr} (ha : Snd X P W Φ a ca) (hb : PE X (.BoolOp .Or (b :: r) pos) (tE P W Φ cb)) : PE X (.BoolOp .Or (a :: b :: r) pos) (tE P W Φ (.or ca cb)) :=
  (pe_orT ha.v (tV_of hb)).weak fun σ H Q ⟨O, ρ, R, h⟩ => ⟨O, ρ, R, by
    have h1 : Aft P W σ O H ((rel (ev Φ ca ρ)).bind fun p => match truth p.1 with
      | some true => .ok (.val p.1, p.2)
      | some false => (rel (ev Φ cb p.2)).map fun q => (.val q.1, q.2)
      | none => .bad) fun s ρ' O' H' => ∀ v, RepR P O' ρ' σ H' v s → Q v H' := h
    refine h1.bind.imp fun d ρ1 O1 H1 R1 _ q v hv => ?_
    dsimp only at q
    split at q
    · rename_i ht
      refine ⟨true, truV hK hv.full ht, ?_⟩
      rw [if_pos rfl]
      exact Aft.now (P := P) (W := W) (α := Slot) q R1 v hv
    · rename_i ht
      refine ⟨false, truV hK hv.full ht, ?_⟩
      rw [if_neg Bool.false_ne_true]
      exact ⟨O1, ρ1, R1, (Aft.map (f := fun q : D × Sts => (Slot.val q.1, q.2)) (fun _ => rfl) q)⟩
    · exact q.elim⟩
/-- tests: what their reading is -/
theorem tru_and {ρ : Sts} : tru (rel (ev Φ (.and ca cb) ρ)) = (tru (rel (ev Φ ca ρ))).bind fun p => if p.1 = true then tru (rel (ev Φ cb p.2)) else .ok (false, p.2) := by
  show tru (rel ((rel (ev Φ ca ρ)).bind fun p => match truth p.1 with
      | some true => (rel (ev Φ cb p.2)).map fun q => (Slot.val q.1, q.2)
      | some false => .ok (.val p.1, p.2)
      | none => .bad)) = _
  cases rel (ev Φ ca ρ) with
  | exc _ _ _ => rfl
  | bad => rfl
  | ok p =>
    obtain ⟨d, ρ1⟩ := p
    show tru (rel (match truth d with
      | some true => (rel (ev Φ cb ρ1)).map fun q => (Slot.val q.1, q.2)
      | some false => .ok (.val d, ρ1)
      | none => .bad)) = (match truth d with
      | some b => R.ok (b, ρ1)
      | none => .bad).bind _
    cases ht : truth d with
    | none => rfl
    | some k =>
      cases k with
      | true =>
        show tru (rel ((rel (ev Φ cb ρ1)).map fun q => (Slot.val q.1, q.2))) = tru (rel (ev Φ cb ρ1))
        cases rel (ev Φ cb ρ1) <;> rfl
      | false =>
        show (match truth d with
          | some b => R.ok (b, ρ1)
          | none => .bad) = .ok (false, ρ1)
        rw [ht]
theorem tru_or {ρ : Sts} : tru (rel (ev Φ (.or ca cb) ρ)) = (tru (rel (ev Φ ca ρ))).bind fun p => if p.1 = true then .ok (true, p.2) else tru (rel (ev Φ cb p.2)) := by
  show tru (rel ((rel (ev Φ ca ρ)).bind fun p => match truth p.1 with
      | some true => .ok (.val p.1, p.2)
      | some false => (rel (ev Φ cb p.2)).map fun q => (Slot.val q.1, q.2)
      | none => .bad)) = _
  cases rel (ev Φ ca ρ) with
  | exc _ _ _ => rfl
  | bad => rfl
  | ok p =>
    obtain ⟨d, ρ1⟩ := p
    show tru (rel (match truth d with
      | some true => .ok (.val d, ρ1)
      | some false => (rel (ev Φ cb ρ1)).map fun q => (Slot.val q.1, q.2)
      | none => .bad)) = (match truth d with
      | some b => R.ok (b, ρ1)
      | none => .bad).bind _
    cases ht : truth d with
    | none => rfl
    | some k =>
      cases k with
      | false =>
        show tru (rel ((rel (ev Φ cb ρ1)).map fun q => (Slot.val q.1, q.2))) = tru (rel (ev Φ cb ρ1))
        cases rel (ev Φ cb ρ1) <;> rfl
      | true =>
        show (match truth d with
          | some b => R.ok (b, ρ1)
          | none => .bad) = .ok (true, ρ1)
        rw [ht]
theorem tru_not {ρ : Sts} : tru (rel (ev Φ (notE ca) ρ)) = (tru (rel (ev Φ ca ρ))).map fun p => (!p.1, p.2) := by
  show tru (rel ((tru (rel (ev Φ ca ρ))).bind fun p => if p.1 then (rel (.ok (.val (.bl false), p.2))).map fun q => (Slot.val q.1, q.2) else (rel (.ok (.val (.bl true), p.2))).map fun q => (Slot.val q.1, q.2))) = _
  cases tru (rel (ev Φ ca ρ)) with
  | exc _ _ _ => rfl
  | bad => rfl
  | ok p =>
    obtain ⟨k, ρ1⟩ := p
    cases k <;> rfl
theorem pt_not' (ha : PT X a (tT P W Φ ca)) : PT X (.UnaryOp .Not a pos) (tT P W Φ (notE ca)) := (pt_not ha).weak fun σ H Q ⟨O, ρ, Z, h⟩ => ⟨O, ρ, Z, by
  dsimp only at h
  rw [tru_not] at h
  exact (Aft.map (f := fun p : Bool × Sts => (!p.1, p.2)) (fun _ => rfl) h)⟩
theorem pw_andD {r : List Expr} (ha : PT X a (tT P W Φ ca)) (hb : PW X (.BoolOp .And (b :: r) pos) (tT P W Φ cb)) : PW X (.BoolOp .And (a :: b :: r) pos) (tT P W Φ (.and ca cb)) :=
  ⟨fun whole pins s σ H Q I ⟨O, ρ, Z, h⟩ => (pw_and ha hb).run whole pins s σ H Q I ⟨O, ρ, Z, by
    dsimp only at h
    rw [tru_and] at h
    refine h.bind.imp fun k ρ1 O1 H1 R1 _ q => ?_
    dsimp only at q
    split at q
    · rename_i c; rw [if_pos c]; exact ⟨O1, ρ1, R1, q⟩
    · rename_i c; rw [if_neg c]; exact Aft.now (P := P) (W := W) (α := Bool) q R1⟩⟩
theorem pw_orD {r : List Expr} (ha : PT X a (tT P W Φ ca)) (hb : PW X (.BoolOp .Or (b :: r) pos) (tT P W Φ cb)) : PW X (.BoolOp .Or (a :: b :: r) pos) (tT P W Φ (.or ca cb)) :=
  ⟨fun whole pins s σ H Q I ⟨O, ρ, Z, h⟩ => (pw_or ha hb).run whole pins s σ H Q I ⟨O, ρ, Z, by
    dsimp only at h
    rw [tru_or] at h
    refine h.bind.imp fun k ρ1 O1 H1 R1 _ q => ?_
    dsimp only at q
    split at q
    · rename_i c; rw [if_pos c]; exact Aft.now (P := P) (W := W) (α := Bool) q R1
    · rename_i c; rw [if_neg c]; exact ⟨O1, ρ1, R1, q⟩⟩⟩
/-- not, as a value: isTrue's own way -/
theorem pe_ifD (ht : PT X a (tT P W Φ ca)) (hb : Snd X P W Φ b cb) (hc : Snd X P W Φ c cc) : PE X (.IfExp a b c pos) (tE P W Φ (.ife ca cb cc)) := (pe_ifExp ht hb.v hc.v).weak fun σ H Q ⟨O, ρ, Z, h⟩ => ⟨O, ρ, Z, by
  have h1 : Aft P W σ O H ((tru (rel (ev Φ ca ρ))).bind fun p => if p.1 then (rel (ev Φ cb p.2)).map fun q => (Slot.val q.1, q.2) else (rel (ev Φ cc p.2)).map fun q => (Slot.val q.1, q.2)) fun s ρ' O' H' => ∀ v, RepR P O' ρ' σ H' v s → Q v H' := h
  refine h1.bind.imp fun k ρ1 O1 H1 R1 _ q => ?_
  dsimp only at q
  cases k with
  | true =>
    rw [if_pos rfl] at q ⊢
    exact ⟨O1, ρ1, R1, (Aft.map (f := fun q : D × Sts => (Slot.val q.1, q.2)) (fun _ => rfl) q)⟩
  | false =>
    rw [if_neg Bool.false_ne_true] at q ⊢
    exact ⟨O1, ρ1, R1, (Aft.map (f := fun q : D × Sts => (Slot.val q.1, q.2)) (fun _ => rfl) q)⟩⟩
end
end DL
namespace DL
open PySem L2
section
variable {X : Cx} {W : WX} {P : Pm} {Φ : Nat → Fn} {σ : St} {H : Hp} {a b c : Expr} {ca cb cc : E} {pos : Pos}
theorem not_rd {Q : VK} (h : tE P W Φ (notE ca) σ H Q) : tT P W Φ ca σ H fun k H' => Q (.bl (!k)) H' := by
  obtain ⟨O, ρ, Z, h⟩ := h
  refine ⟨O, ρ, Z, ?_⟩
  have e : ev Φ (notE ca) ρ = (tru (rel (ev Φ ca ρ))).bind fun p => .ok (Slot.val (.bl (!p.1)), p.2) := by
    show ((tru (rel (ev Φ ca ρ))).bind fun p => if p.1 then (rel (.ok (.val (.bl false), p.2))).map fun q => (Slot.val q.1, q.2) else (rel (.ok (.val (.bl true), p.2))).map fun q => (Slot.val q.1, q.2)) = _
    cases tru (rel (ev Φ ca ρ)) with
    | exc _ _ _ => rfl
    | bad => rfl
    | ok p => obtain ⟨k, ρ1⟩ := p; cases k <;> rfl
  rw [e] at h
  exact h.bind.imp fun k ρ1 O1 H1 R1 _ q => Aft.now (P := P) (W := W) (α := Slot) q R1 _ (.bl _)
theorem pe_notD (hK : P.G.K = X.K) (ha : PE X a (tE P W Φ ca)) : PE X (.UnaryOp .Not a pos) (tE P W Φ (notE ca)) :=
  (pe_notT (tV_of ha)).weak fun σ H Q h => val_rd hK (not_rd h)
theorem pe_notN {i : Nat} (hK : P.G.K = X.K) (ha : PE X a (tVar i)) : PE X (.UnaryOp .Not a pos) (tE P W Φ (notE (tstE (.var i)))) :=
  (pe_notT (name_arg (P := P) (W := W) (Φ := Φ) ha)).weak fun σ H Q h => tst_rd hK (not_rd h)

/-! ### displays -/
theorem mk_args {o : Mk} {cs : List E} {Q : VK} (h : tE P W Φ (.mk o cs) σ H Q) : tVs P W (fun ρ => evVs Φ cs ρ) σ H fun vs H1 => ∃ O ds s, Reps P.G (cut H1 O) vs ds ∧ (∀ a ∈ O, ∃ o, H1 a = some o ∧ Mut (some o)) ∧ mkf o ds = some s ∧ ∀ v H', Res P.G O H1 v H' s → Q v H' := by
  obtain ⟨O, ρ, Z, a⟩ := h
  refine ⟨O, ρ, Z, ?_⟩
  have a2 : Aft P W σ O H ((evVs Φ cs ρ).bind fun p => (R.ofO (mkf o p.1)).map fun s => (s, p.2)) fun s ρ' O' H' => ∀ v, RepR P O' ρ' σ H' v s → Q v H' := a
  refine a2.bind.imp fun ds ρ1 O1 H1 R1 _ q vs hv => ?_
  dsimp only at q
  cases hm : mkf o ds with
  | none => rw [hm] at q; exact q.elim
  | some s =>
    rw [hm] at q
    refine ⟨O1, ds, s, hv, R1.odom, hm, fun v H' hr => ?_⟩
    obtain ⟨O2, R2, e2, r2⟩ := hr.post R1
    exact q O2 H' R2 e2 v r2
theorem tVs.imp {r : Sts → R Sts (List D × Sts)} {Q Q' : List V → Hp → Prop} (h : tVs P W r σ H Q) (k : ∀ v H', Q v H' → Q' v H') : tVs P W r σ H Q' := by
  obtain ⟨O, ρ, Z, a⟩ := h
  exact ⟨O, ρ, Z, a.imp fun _ _ _ _ _ _ q v rv => k _ _ (q v rv)⟩
theorem pe_tupD {es : List Expr} {cs : List E} {k1 : Nat} (h : PA X es (tVs P W fun ρ => evVs Φ cs ρ)) : PE X (.Tuple es k1 pos) (tE P W Φ (.mk .tup cs)) := (pe_tup h).weak fun σ H Q h => (mk_args h).imp fun vs H1 ⟨O, ds, s, r, od, hm, q⟩ => by
  have hs : sizeLine = 16777216 := sizeLine_eq
  replace hm : (if ds.length ≤ Line then some (Slot.val (.tup ds)) else none) = some s := hm
  split at hm
  · rename_i c
    cases hm
    exact ⟨by rw [hs, r.length]; exact c, fun p hp => q _ _ (.nt od hp r)⟩
  · cases hm
theorem pe_lstD {es : List Expr} {cs : List E} (h : PA X es (tVs P W fun ρ => evVs Φ cs ρ)) : PE X (.List es pos) (tE P W Φ (.mk .lst cs)) := (pe_lst h).weak fun σ H Q h => (mk_args h).imp fun vs H1 ⟨O, ds, s, r, od, hm, q⟩ => by
  have hs : sizeLine = 16777216 := sizeLine_eq
  replace hm : (if ds.length ≤ Line then some (Slot.own (.lst ds)) else none) = some s := hm
  split at hm
  · rename_i c
    cases hm
    exact ⟨by rw [hs, r.length]; exact c, fun p hp => q _ _ (.nl hp r)⟩
  · cases hm
/-- lists of compiled expressions -/
inductive SndL (X : Cx) (P : Pm) (W : WX) (Φ : Nat → Fn) : List Expr → List E → Prop
  | nil : SndL X P W Φ [] []
  | cons {e : Expr} {es : List Expr} {c : E} {cs : List E} : nst e = true → Snd X P W Φ e c → SndL X P W Φ es cs → SndL X P W Φ (e :: es) (c :: cs)
theorem SndL.len : ∀ {es : List Expr} {cs : List E}, SndL X P W Φ es cs → es.length = cs.length
  | _, _, .nil => rfl
  | _, _, .cons _ _ r => by simp [r.len]
theorem SndL.vs : ∀ {es : List Expr} {cs : List E}, SndL X P W Φ es cs → PA X es (tVs P W fun ρ => evVs Φ cs ρ)
  | _, _, .nil => pa_nil.weak fun σ H Q h => vs_nil h
  | _, _, .cons hn h r => (pa_consN hn h.v r.vs).weak fun σ H Q h => vs_cons h
theorem SndL.args : ∀ {es : List Expr} {cs : List E}, SndL X P W Φ es cs → PA X es (tArgs P W fun ρ => evBs Φ cs ρ)
  | _, _, .nil => pa_nil.weak fun σ H Q h => args_nil h
  | _, _, .cons hn h r => (pa_consN hn h.arg r.args).weak fun σ H Q h => args_cons h
/-- an argument of a call -/
theorem cw_arg {m : Bool} (h : Snd X P W Φ a ca) : PE X a (tArg P W fun ρ => cw m ca ρ (rel (ev Φ ca ρ))) := by
  cases m with
  | false =>
    refine h.v.weak fun σ H Q ⟨O, ρ, Z, q⟩ => ⟨O, ρ, Z, ?_⟩
    exact (Aft.map (f := fun p : D × Sts => (Arg.dat p.1, p.2)) (fun _ => rfl) q).imp fun d _ _ _ _ _ q v rv => q v rv
  | true =>
    by_cases hv : ∃ i, ca = .var i
    · obtain ⟨i, rfl⟩ := hv
      refine (h.nm i rfl).weak fun σ H Q ⟨O, ρ, Z, q⟩ => ?_
      replace q : Aft P W σ O H (if isOwn ρ i then .ok (.ref i, ρ) else .bad) fun a ρ' O' H' => ∀ v, ArgAt P σ O' H' v a → Q v H' := q
      split at q
      · rename_i c
        unfold isOwn at c
        obtain ⟨d, hd⟩ := Option.isSome_iff_exists.mp c
        obtain ⟨b, h1, _⟩ := Z.mu hd
        exact ⟨_, h1, Aft.now q Z _ h1⟩
      · exact q.elim
    · refine h.v.weak fun σ H Q ⟨O, ρ, Z, q⟩ => ?_
      have e : cw true ca ρ (rel (ev Φ ca ρ)) = .bad := by
        unfold cw
        cases ca with
        | var i => exact absurd ⟨i, rfl⟩ hv
        | _ => rfl
      dsimp only at q
      rw [e] at q
      exact q.elim
theorem SndL.cargs : ∀ {es : List Expr} {cs : List E} (m : List Bool), SndL X P W Φ es cs → PA X es (tArgs P W fun ρ => evCs Φ m cs ρ)
  | _, _, m, .nil => pa_nil.weak fun σ H Q h => cargs_nil h
  | _, _, m, .cons hn h r => (pa_consN hn (cw_arg h) (r.cargs m.tail)).weak fun σ H Q h => cargs_cons h
/-- the call of a def of the text -/
theorem pe_callD {Γ : Ctx} {k i : Nat} {x : Str} {p : Pos} {g : FnS} {es : List Expr} {cs : List E} (ok : Ok X W P Γ Φ k) (hf : fnIx Γ.fs x = some (i, g)) (hg : Γ.gl x = true) (hl : g.mask.length = es.length) (h : SndL X P W Φ es cs) :
    PE X (.Call (.Name x p) es [] pos) (tE P W Φ (.call i g.mask cs)) := by
  obtain ⟨h1, rfl⟩ := fnIx_at hf
  obtain ⟨f, q1, q2, q3, F⟩ := (ok.fs i g h1).at_
  obtain ⟨g1, g2, g3⟩ := ok.glob hg
  have hl' : g.mask.length = cs.length := by rw [hl]; exact h.len
  cases h with
  | nil =>
    refine (pe_callG0 F ok.gd ok.room g1 q1 q2 ok.tk g2).weak fun σ H Q h => ?_
    exact cargs_nil (call_args hl' h)
  | cons hn h r =>
    have hr : ∀ {es : List Expr} {cs : List E}, SndL X P W Φ es cs → es.all nst = true := fun {es cs} z => by
      induction z with
      | nil => rfl
      | cons a _ _ ih => rw [List.all_cons, a, ih]; rfl
    refine (pe_callG F ok.gd ok.room g1 q1 q2 ok.tk ⟨hn, hr r⟩ ((SndL.cons hn h r).cargs g.mask) g2).weak fun σ H Q h => call_args hl' h

/-! ### subscripts, slices -/
def isSlice : Expr → Bool
  | .Slice .. => true
  | _ => false
theorem plain_ix {b : Expr} (h : isSlice b = false) : PlainIx b := by
  intro o i
  cases b <;> first | rfl | cases h
theorem pe_ixD (hK : P.G.K = X.K) (hs : isSlice b = false) (ha : Snd X P W Φ a ca) (hb : Snd X P W Φ b cb) : PE X (.Subscript a b pos) (tE P W Φ (.op .ix [ca, cb])) :=
  (pe_ix (ixr hK) ha.arg hb.arg (plain_ix hs)).weak fun σ H Q h => args2 (op_args h)
/-- a whole number, or nothing goes on -/
theorem ck_rd {Q : VK} (h : tArg P W (argR Φ (.op .ck [ca])) σ H Q) : tArg P W (argR Φ ca) σ H fun x H1 => ∃ i, x = .int i ∧ Q x H1 := by
  obtain ⟨O, ρ, Z, q⟩ := h
  have q2 : tE P W Φ (.op .ck [ca]) σ H Q := ⟨O, ρ, Z, by
    have e : argR Φ (.op .ck [ca]) ρ = (rel (ev Φ (.op .ck [ca]) ρ)).map fun p => (Arg.dat p.1, p.2) := rfl
    rw [e] at q
    refine Aft.rel ?_
    exact (Aft.map (f := fun p : D × Sts => (Arg.dat p.1, p.2)) (fun _ => rfl) q).imp fun d _ _ _ _ _ q v rv => q v rv⟩
  refine (args1 (op_args q2)).imp fun x H1 ⟨O, ds, sl, hr, od, hg, q⟩ => ?_
  obtain ⟨x', d, e, rfl, h1, hg⟩ := hr.get1 hg (len1 (fun _ _ _ => by simp [opf]) rfl)
  cases e
  cases d with
  | int i =>
    cases hg
    refine ⟨i, h1.int, ?_⟩
    rw [h1.int]
    exact q _ _ (.vl (.int i))
  | _ => cases hg
theorem sl_fin {lo hi : Bool} {Q : VK} {x : V} {vs : List V} {H1 : Hp} {l u : Option Int} (hl : vs = l.toList.map V.int ++ u.toList.map V.int) (hlo : lo = l.isSome) (hhi : hi = u.isSome) (h : rD P.G (opf (.sl lo hi)) (x :: vs) H1 Q) : rSl P.G x l u H1 Q := by
  subst hl hlo hhi
  obtain ⟨O, ds, sl, hr, od, hg, q⟩ := h
  cases hr with
  | cons h1 hr =>
    rename_i d ds
    replace hg : (bounds l.isSome u.isSome ds).bind (fun p => slf p.1 p.2 d) = some sl := hg
    obtain ⟨p, hb, hg⟩ := Option.bind_eq_some_iff.mp hg
    refine ⟨O, d, sl, h1, od, ?_, q⟩
    cases l with
    | none =>
      cases u with
      | none => cases hr; cases hb; exact hg
      | some j =>
        cases hr with
        | cons z r =>
          cases r
          rename_i d1
          cases d1 with
          | int i => cases z.int; cases hb; exact hg
          | _ => cases hb
    | some i0 =>
      cases u with
      | none =>
        cases hr with
        | cons z r =>
          cases r
          rename_i d1
          cases d1 with
          | int i => cases z.int; cases hb; exact hg
          | _ => cases hb
      | some j =>
        cases hr with
        | cons z r =>
          cases r with
          | cons z2 r =>
            cases r
            rename_i d1 d2
            cases d1 with
            | int i =>
              cases d2 with
              | int i2 => cases z.int; cases z2.int; cases hb; exact hg
              | _ => cases hb
            | _ => cases d2 <;> cases hb
theorem pe_slD {lo hi : Option Expr} {clo chi : Option E} {p2 : Pos} (hK : P.G.K = X.K) (ha : Snd X P W Φ a ca) (hl : ∀ e c, lo = some e → clo = some c → Snd X P W Φ e c) (hh : ∀ e c, hi = some e → chi = some c → Snd X P W Φ e c) (sl : lo.isSome = clo.isSome) (sh : hi.isSome = chi.isSome) :
    PE X (.Subscript a (.Slice lo hi none p2) pos) (tE P W Φ (.op (.sl clo.isSome chi.isSome) (ca :: ((clo.toList ++ chi.toList).map fun c => .op .ck [c])))) := by
  cases lo with
  | none =>
    cases clo with
    | some _ => cases sl
    | none =>
    cases hi with
    | none =>
      cases chi with
      | some _ => cases sh
      | none =>
        refine (pe_slice (slr hK) ha.arg po_none po_none).weak fun σ H Q h => ?_
        exact (args1 (op_args h)).imp fun x H1 h => sl_fin (l := none) (u := none) rfl rfl rfl h
    | some e2 =>
      cases chi with
      | none => cases sh
      | some c2 =>
        refine (pe_slice (slr hK) ha.arg po_none (po_some (hh e2 c2 rfl rfl).arg)).weak fun σ H Q h => ?_
        refine (args2 (op_args h)).imp fun x H1 h => ?_
        exact (ck_rd h).imp fun y H2 ⟨i, e, h⟩ => ⟨i, e, sl_fin (l := none) (u := some i) (by rw [e]; rfl) rfl rfl h⟩
  | some e1 =>
    cases clo with
    | none => cases sl
    | some c1 =>
    cases hi with
    | none =>
      cases chi with
      | some _ => cases sh
      | none =>
        refine (pe_slice (slr hK) ha.arg (po_some (hl e1 c1 rfl rfl).arg) po_none).weak fun σ H Q h => ?_
        refine (args2 (op_args h)).imp fun x H1 h => ?_
        exact (ck_rd h).imp fun y H2 ⟨i, e, h⟩ => ⟨i, e, sl_fin (l := some i) (u := none) (by rw [e]; rfl) rfl rfl h⟩
    | some e2 =>
      cases chi with
      | none => cases sh
      | some c2 =>
        refine (pe_slice (slr hK) ha.arg (po_some (hl e1 c1 rfl rfl).arg) (po_some (hh e2 c2 rfl rfl).arg)).weak fun σ H Q h => ?_
        refine (args_cons (op_args h)).imp fun x H1 h => ?_
        refine (ck_rd (args_cons h)).imp fun y H2 ⟨i, e, h⟩ => ⟨i, e, ?_⟩
        refine (ck_rd (args_cons h)).imp fun z H3 ⟨j, e', h⟩ => ⟨j, e', ?_⟩
        exact sl_fin (l := some i) (u := some j) (by rw [e, e']; rfl) rfl rfl (args_nil h)
end
end DL
namespace DL
open PySem L2
section
variable {X : Cx} {W : WX} {P : Pm} {Γ : Ctx} {Φ : Nat → Fn} {k : Nat} {σ : St} {H : Hp} {a b c : Expr} {ca cb cc : E} {p pos : Pos} {x : Str}
/-! ### built-ins -/
theorem pe_b1 {o : Op} {id : String} (ok : Ok X W P Γ Φ k) (hx : Γ.bi x = true) (hv : bootBuiltins x = some (.builtin id)) (hc : CallR X (.builtin id) (rD P.G (opf o))) (hn : nst a = true) (ha : Snd X P W Φ a ca) : PE X (.Call (.Name x p) [a] [] pos) (tE P W Φ (.op o [ca])) := by
  obtain ⟨g1, g2, g3, g4⟩ := ok.bi hx
  exact (pe_callB hc g1 g4 hv (SndL.cons hn ha .nil).args g3 g2 (starEach_nst hn _ _) rfl).weak fun σ H Q h => op_args h
theorem pe_t1 {o : Op} {id : String} (ok : Ok X W P Γ Φ k) (hx : Γ.bi x = true) (hv : bootBuiltins x = some (.type id)) (hc : CallR X (.type id) (rD P.G (opf o))) (hn : nst a = true) (ha : Snd X P W Φ a ca) : PE X (.Call (.Name x p) [a] [] pos) (tE P W Φ (.op o [ca])) := by
  obtain ⟨g1, g2, g3, g4⟩ := ok.bi hx
  exact (pe_callTy hc g1 g4 hv (SndL.cons hn ha .nil).args g3 g2 (starEach_nst hn _ _) rfl).weak fun σ H Q h => op_args h
theorem tArgs.imp {r : Sts → R Sts (List Arg × Sts)} {Q Q' : List V → Hp → Prop} (h : tArgs P W r σ H Q) (k : ∀ v H', Q v H' → Q' v H') : tArgs P W r σ H Q' := by
  obtain ⟨O, ρ, Z, a⟩ := h
  exact ⟨O, ρ, Z, a.imp fun _ _ _ _ _ _ q v rv => k _ _ (q v rv)⟩
theorem pe_m1 {o : Op} {id : String} (ok : Ok X W P Γ Φ k) (hx : Γ.bi x = true) (hv : bootBuiltins x = some (.builtin id)) (hc : CallR X (.builtin id) (fun xs H Q => (xs.length = 1 ∨ xs.length = 2) ∧ rD P.G (opf o) xs H Q)) (hn : nst a = true) (ha : Snd X P W Φ a ca) : PE X (.Call (.Name x p) [a] [] pos) (tE P W Φ (.op o [ca])) := by
  obtain ⟨g1, g2, g3, g4⟩ := ok.bi hx
  exact (pe_callB hc g1 g4 hv (pa_consN hn ha.arg pa_nil) g3 g2 (starEach_nst hn _ _) rfl).weak fun σ H Q h => (args1 (op_args h)).imp fun v H1 q => ⟨.inl rfl, q⟩
theorem pe_m2 {o : Op} {id : String} (ok : Ok X W P Γ Φ k) (hx : Γ.bi x = true) (hv : bootBuiltins x = some (.builtin id)) (hc : CallR X (.builtin id) (fun xs H Q => (xs.length = 1 ∨ xs.length = 2) ∧ rD P.G (opf o) xs H Q)) (hn : nst a = true) (hn2 : nst b = true) (ha : Snd X P W Φ a ca) (hb : Snd X P W Φ b cb) : PE X (.Call (.Name x p) [a, b] [] pos) (tE P W Φ (.op o [ca, cb])) := by
  obtain ⟨g1, g2, g3, g4⟩ := ok.bi hx
  exact (pe_callB hc g1 g4 hv (pa_consN hn ha.arg (pa_consN hn2 hb.arg pa_nil)) g3 g2 (starEach_nst hn _ _) (plain_nst (by simp [hn2]))).weak fun σ H Q h => (args2 (op_args h)).imp fun v H1 q => q.imp fun w H2 q => ⟨.inr rfl, q⟩
theorem cr_listD (hK : P.G.K = X.K) : CallR X (.type "list") (rD P.G (opf .list)) := call_list_of.wk fun xs H Q h => by
  obtain ⟨O, ds, sl, hr, od, hg, q⟩ := h
  obtain ⟨x, d, rfl, rfl, h1, hg⟩ := hr.get1 hg (len1 (fun _ _ _ => by simp [opf]) rfl)
  cases d with
  | lst ys =>
    cases hg
    obtain ⟨a, zs, rfl, e1, r1⟩ := h1.lst
    exact ⟨a, zs, rfl, .inl (.of e1), fun p hp => q _ _ (.nl hp r1)⟩
  | rol ys =>
    cases hg
    obtain ⟨a, zs, rfl, e1, r1⟩ := h1.rol
    exact ⟨a, zs, rfl, .inl (hK ▸ e1), fun p hp => q _ _ (.nl hp r1)⟩
  | tup ys =>
    cases hg
    obtain ⟨a, zs, rfl, e1, r1⟩ := h1.tup
    exact ⟨a, zs, rfl, .inr (hK ▸ e1), fun p hp => q _ _ (.nl hp r1)⟩
  | _ => cases hg
theorem mem_look {α : Type} {l : List (Str × α)} {x : Str} {o : α} (h : l.lookup x = some o) : ∃ y, (y, o) ∈ l ∧ x = y := by
  have := PySem.mem_of_lookup h
  exact ⟨x, this, rfl⟩
theorem pe_bi1 {o : Op} (ok : Ok X W P Γ Φ k) (hx : Γ.bi x = true) (ho : bi1 x = some o) (hn : nst a = true) (ha : Snd X P W Φ a ca) : PE X (.Call (.Name x p) [a] [] pos) (tE P W Φ (.op o [ca])) := by
  have hu := ok.un
  have hm : (x, o) ∈ bi1T := PySem.mem_of_lookup ho
  simp only [bi1T, List.mem_cons, Prod.mk.injEq, List.not_mem_nil, or_false] at hm
  rcases hm with ⟨rfl, rfl⟩ | ⟨rfl, rfl⟩ | ⟨rfl, rfl⟩ | ⟨rfl, rfl⟩ | ⟨rfl, rfl⟩ | ⟨rfl, rfl⟩ | ⟨rfl, rfl⟩ | ⟨rfl, rfl⟩ | ⟨rfl, rfl⟩ | ⟨rfl, rfl⟩ | ⟨rfl, rfl⟩
  · exact pe_b1 (id := "len") ok hx (by decide +kernel) (cr_len ok.K) hn ha
  · exact pe_t1 (id := "int") ok hx (by decide +kernel) cr_int hn ha
  · exact pe_b1 (id := "abs") ok hx (by decide +kernel) cr_abs hn ha
  · exact pe_b1 (id := "all") ok hx (by decide +kernel) (cr_allD ok.calm) hn ha
  · exact pe_b1 (id := "any") ok hx (by decide +kernel) (cr_anyD ok.calm) hn ha
  · exact pe_b1 (id := "sum") ok hx (by decide +kernel) (cr_sumD ok.calm) hn ha
  · exact pe_m1 (id := "max") ok hx (by decide +kernel) (cr_maxD ok.calm) hn ha
  · exact pe_m1 (id := "min") ok hx (by decide +kernel) (cr_minD ok.calm) hn ha
  · exact pe_t1 (id := "tuple") ok hx (by decide +kernel) (cr_tupleD ok.K) hn ha
  · exact pe_t1 (id := "list") ok hx (by decide +kernel) (cr_listD ok.K) hn ha
  · exact pe_b1 (id := "repr") ok hx (by decide +kernel) (cr_repr ok.K ok.gd hu) hn ha
theorem pe_bi2 {o : Op} (ok : Ok X W P Γ Φ k) (hx : Γ.bi x = true) (ho : bi2 x = some o) (hn : nst a = true) (hn2 : nst b = true) (ha : Snd X P W Φ a ca) (hb : Snd X P W Φ b cb) : PE X (.Call (.Name x p) [a, b] [] pos) (tE P W Φ (.op o [ca, cb])) := by
  have hm : (x, o) ∈ bi2T := PySem.mem_of_lookup ho
  simp only [bi2T, List.mem_cons, Prod.mk.injEq, List.not_mem_nil, or_false] at hm
  rcases hm with ⟨rfl, rfl⟩ | ⟨rfl, rfl⟩
  · exact pe_m2 (id := "max") ok hx (by decide +kernel) (cr_maxD ok.calm) hn hn2 ha hb
  · exact pe_m2 (id := "min") ok hx (by decide +kernel) (cr_minD ok.calm) hn hn2 ha hb
theorem tyName_boot {t : String} (h : tyName x = some t) : bootBuiltins x = some (.type t) := by
  have hm : (x, t) ∈ tyT := PySem.mem_of_lookup h
  simp only [tyT, List.mem_cons, Prod.mk.injEq, List.not_mem_nil, or_false] at hm
  rcases hm with ⟨rfl, rfl⟩ | ⟨rfl, rfl⟩ | ⟨rfl, rfl⟩ | ⟨rfl, rfl⟩ | ⟨rfl, rfl⟩ <;> decide +kernel
theorem pe_isi {y : Str} {p2 : Pos} {t : String} (ok : Ok X W P Γ Φ k) (hx : Γ.bi "isinstance" = true) (hy : Γ.bi y = true) (ht : tyName y = some t) (hn : nst a = true) (ha : Snd X P W Φ a ca) :
    PE X (.Call (.Name "isinstance" p) [a, .Name y p2] [] pos) (tE P W Φ (.op (.isi t) [ca])) := by
  obtain ⟨g1, g2, g3, g4⟩ := ok.bi hx
  obtain ⟨k1, k2, k3, k4⟩ := ok.bi hy
  have hp : PE X (.Name y p2) (tC (.ty t)) := pe_bltn k1 k4 (tyName_boot ht) rfl k3 k2
  refine (pe_callB (cr_isi (n := t) ok.K) g1 g4 (by decide +kernel) (pa_consN hn ha.arg (pa_consN rfl hp pa_nil)) g3 g2 (starEach_nst hn _ _) rfl).weak fun σ H Q h => ?_
  exact (args1 (op_args h)).imp fun v H1 q => ⟨v, rfl, q⟩

/-! ### what changes a list -/
theorem mu_rd {m : Mu} {i : Nat} {cs : List E} {Q : VK} (h : tE P W Φ (.mu m i cs) σ H Q) : ∃ l, σ[i]? = some (some (.ref l)) ∧ (∃ o, H l = some o ∧ ∀ xs, o = .lst xs → True) ∧ (∃ xs, H l = some (.lst xs)) ∧
    tVs P W (fun ρ => evVs Φ cs ρ) σ H fun vs H1 => ∃ O ds d r d' xs, Reps P.G (cut H1 O) vs ds ∧ H1 l = some (.lst xs) ∧ (∃ es, d = .lst es ∧ Reps P.G (cut H1 O) xs es) ∧ muf m d ds = some (r, d') ∧
      ∀ xs' es', d' = .lst es' → Reps P.G (cut H1 O) xs' es' → ∀ v, Rep P.G (cut H1 O) v r → Q v (upd H1 l (.lst xs')) := by
  obtain ⟨O, ρ, Z, q⟩ := h
  replace q : Aft P W σ O H (if isOwn ρ i then (evVs Φ cs ρ).bind (muR m i) else .bad) fun s ρ' O' H' => ∀ v, RepR P O' ρ' σ H' v s → Q v H' := q
  split at q
  · rename_i c0
    unfold isOwn at c0
    obtain ⟨d0, hd0⟩ := Option.isSome_iff_exists.mp c0
    obtain ⟨l, e1, e2, e3, _⟩ := Z.mu hd0
    have hl : ∃ xs, H l = some (.lst xs) := by
      cases d0 with
      | lst ds => obtain ⟨xs, h, _⟩ := e3; exact ⟨xs, h⟩
      | _ => exact e3.elim
    obtain ⟨xs0, hl0⟩ := hl
    refine ⟨l, e1, ⟨_, hl0, fun _ _ => trivial⟩, ⟨xs0, hl0⟩, O, ρ, Z, q.bind.imp fun ds ρ1 O1 H1 R1 _ q1 vs hv => ?_⟩
    unfold muR at q1
    split at q1
    · rename_i d hd
      split at q1
      · rename_i r d' hm
        obtain ⟨l', f1, f2, f3, _⟩ := R1.mu hd
        rw [e1] at f1
        cases f1
        cases d with
        | lst es =>
          obtain ⟨xs, g1, g2⟩ := f3
          refine ⟨O1, ds, .lst es, r, d', xs, hv, g1, ⟨es, rfl, g2⟩, hm, fun xs' es' he hr v hv' => ?_⟩
          subst he
          have ck := cut_in (H := H1) (O := O1) (o := .lst xs') f2
          have R2 : Rel P O1 (putE ρ1 i (.lst es')) σ (upd H1 l (.lst xs')) := R1.change hd e1 trivial ⟨xs', upd_same, by rw [ck]; exact hr⟩
          exact q1 O1 _ R2 (ext_in f2) v (by show Rep P.G (cut (upd H1 l (.lst xs')) O1) v r; rw [ck]; exact hv')
        | _ => exact f3.elim
      · exact q1.elim
    · exact q1.elim
  · exact q.elim
theorem base_name {m : Str} {y : Str} {p0 : Pos} : attributeBase (.Name y p0) m X.env (eval (.Name y p0) X.env) = eval (.Name y p0) X.env := rfl
theorem few1 {cpos : Pos} (hn : nst a = true) : ((backTo cpos (starEach (a :: []) X.env)).all (fun x => !x.1) && (backToKw cpos (keywordEach [] X.env)).all (fun x => x.1.isSome)
      && decide ((a :: ([] : List Expr)).length + ([] : List Keyword).length + (if ([] : List Keyword).isEmpty then 0 else 1) < 30)) = true := by
  rw [starEach_nst hn]; rfl
theorem pe_append {y : Str} {p0 apos cpos : Pos} {i : Nat} (hy : PE X (.Name y p0) (tVar i)) (hl : (apos.endLine == cpos.line) = true) (hn : nst a = true) (ha : Snd X P W Φ a ca) :
    PE X (.Call (.Attribute (.Name y p0) "append" apos) [a] [] cpos) (tE P W Φ (.mu .append i [ca])) := by
  refine (pe_bm PySem.F.plainAttrs_list PySem.F.slot_list_append PySem.F.type_list_append mt_append hy (SndL.cons hn ha .nil).vs base_name (few1 hn) hl (starEach_nst hn _ _) rfl).weak fun σ H Q h => ?_
  have hs : sizeLine = 16777216 := sizeLine_eq
  obtain ⟨l, e1, _, ⟨xs0, e2⟩, q⟩ := mu_rd h
  refine ⟨.ref l, e1, .inl ⟨rfl, xs0, .of e2⟩, q.imp fun vs H1 ⟨O, ds, d, r, d', xs, h1, h2, ⟨es, hd, h3⟩, hm, q⟩ => ?_⟩
  subst hd
  match ds, vs, h1, hm with
  | [w], _, .cons (v := v) hw .nil, hm =>
    replace hm : (if es.length < Line then some (D.non, D.lst (es ++ [w])) else none) = some (r, d') := hm
    split at hm
    · rename_i c
      cases hm
      exact ⟨l, xs, v, rfl, rfl, h2, by rw [hs, h3.length]; exact c, q _ _ rfl (h3.append (.cons hw .nil)) _ .non⟩
    · cases hm
  | [], _, _, hm => cases hm
  | _ :: _ :: _, _, _, hm => simp [muf] at hm
theorem pe_extend {y : Str} {p0 apos cpos : Pos} {i : Nat} (hy : PE X (.Name y p0) (tVar i)) (hl : (apos.endLine == cpos.line) = true) (hn : nst a = true) (ha : Snd X P W Φ a ca) :
    PE X (.Call (.Attribute (.Name y p0) "extend" apos) [a] [] cpos) (tE P W Φ (.mu .extend i [ca])) := by
  refine (pe_bm PySem.F.plainAttrs_list PySem.F.slot_list_extend PySem.F.type_list_extend mt_extend hy (SndL.cons hn ha .nil).vs base_name (few1 hn) hl (starEach_nst hn _ _) rfl).weak fun σ H Q h => ?_
  have hs : sizeLine = 16777216 := sizeLine_eq
  obtain ⟨l, e1, _, ⟨xs0, e2⟩, q⟩ := mu_rd h
  refine ⟨.ref l, e1, .inl ⟨rfl, xs0, .of e2⟩, q.imp fun vs H1 ⟨O, ds, d, r, d', xs, h1, h2, ⟨es, hd, h3⟩, hm, q⟩ => ?_⟩
  subst hd
  match ds, vs, h1, hm with
  | [.lst ws], _, .cons (.lst (a := b) (xs := zs) hb hw) .nil, hm =>
    replace hm : (if es.length + ws.length ≤ Line then some (D.non, D.lst (es ++ ws)) else none) = some (r, d') := hm
    split at hm
    · rename_i c
      cases hm
      exact ⟨l, b, xs, zs, rfl, rfl, h2, cut_le hb, by rw [hs, h3.length, hw.length]; exact c, q _ _ rfl (h3.append hw) _ .non⟩
    · cases hm
  | [.non], _, _, hm => cases hm
  | [.bl _], _, _, hm => cases hm
  | [.int _], _, _, hm => cases hm
  | [.str _], _, _, hm => cases hm
  | [.tup _], _, _, hm => cases hm
  | [.dic _], _, _, hm => cases hm
  | [.fn _], _, _, hm => cases hm
  | [.ty _], _, _, hm => cases hm
  | [.rol _], _, _, hm => cases hm
  | [], _, _, hm => cases hm
  | _ :: _ :: _, _, _, hm => simp [muf] at hm
theorem pe_pop {y : Str} {p0 apos cpos : Pos} {i : Nat} (hy : PE X (.Name y p0) (tVar i)) (hl : (apos.endLine == cpos.line) = true) :
    PE X (.Call (.Attribute (.Name y p0) "pop" apos) [] [] cpos) (tE P W Φ (.mu .pop i [])) := by
  refine (pe_bm0 PySem.F.plainAttrs_list PySem.F.slot_list_pop PySem.F.type_list_pop mt_pop hy base_name hl).weak fun σ H Q h => ?_
  obtain ⟨l, e1, _, ⟨xs0, e2⟩, q⟩ := mu_rd h
  refine ⟨.ref l, e1, .inl ⟨rfl, xs0, .of e2⟩, ?_⟩
  obtain ⟨O, ds, d, r, d', xs, h1, h2, ⟨es, hd, h3⟩, hm, q⟩ := vs_nil q
  subst hd
  cases h1
  replace hm : (match es.getLast? with
    | some y => some (y, D.lst es.dropLast)
    | none => none) = some (r, d') := hm
  split at hm
  · rename_i y hy
    cases hm
    rw [List.getLast?_eq_getElem?] at hy
    obtain ⟨v, f1, f2⟩ := h3.get hy
    rw [← h3.length] at f1
    exact ⟨l, xs, v, rfl, rfl, h2, f1, q _ _ rfl h3.dropLast _ f2⟩
  · cases hm
/-! ### written dicts -/
theorem ent_ns {K : PySem.W.Frag} {w : World} {d : Addr} {es : Array DictEntry} {n : Nat} {kvs : List (Str × Int)} (D : KDict K w d es n) (r : EntRel es.toList kvs) (z : Str) : match kvs.lookup z with
    | some i => ∃ t, PySem.W.nsIn K d z = some (some (.int i t))
    | none => PySem.W.nsIn K d z = some none := by
  have key : ∀ {l : List DictEntry} {kvs : List (Str × Int)}, EntRel l kvs → match kvs.lookup z with
      | some i => ∃ e t, l.find? (·.key.isStr z) = some e ∧ e.val = .int i t
      | none => l.find? (·.key.isStr z) = none ∧ l.any (·.refKey) = false := fun {l kvs} r => by
    induction r with
    | nil => exact ⟨rfl, rfl⟩
    | cons h1 h2 r ih =>
      rename_i e es x i kvs
      obtain ⟨t, h1⟩ := h1
      obtain ⟨t', h2⟩ := h2
      rw [List.lookup_cons]
      by_cases hz : z = x
      · subst hz
        have : (z == z) = true := beq_self_eq_true z
        rw [this]
        refine ⟨e, t', ?_, h2⟩
        rw [List.find?_cons_of_pos]
        rw [h1]
        simp [Value.isStr]
      · have hb : (z == x) = false := by simpa using hz
        rw [hb]
        have hne : e.key.isStr z = false := by
          rw [h1]
          simp [Value.isStr]
          exact fun q => hz q.symm
        have hr : e.refKey = false := by simp [DictEntry.refKey, h1]
        revert ih
        cases kvs.lookup z with
        | none =>
          rintro ⟨q1, q2⟩
          refine ⟨?_, ?_⟩
          · rw [List.find?_cons_of_neg (by simp [hne])]; exact q1
          · rw [List.any_cons, hr, q2]; rfl
        | some j =>
          rintro ⟨e', t'', q1, q2⟩
          refine ⟨e', t'', ?_, q2⟩
          rw [List.find?_cons_of_neg (by simp [hne])]; exact q1
  have k := key r
  unfold PySem.W.nsIn
  rw [D.at_]
  dsimp only
  revert k
  cases kvs.lookup z with
  | none => rintro ⟨q1, q2⟩; rw [q1, q2]; rfl
  | some i => rintro ⟨e, t, q1, q2⟩; exact ⟨t, by rw [q1]; show some (some e.val) = _; rw [q2]⟩
theorem inK_bl {kvs : List (Str × Int)} {neg : Bool} : ∀ ds s, opf (.inK kvs neg) ds = some s → ∃ b, s = .val (.bl b)
  | [], _, h => by cases h
  | [d], s, h => by
    cases d with
    | str z => cases h; exact ⟨_, rfl⟩
    | _ => cases h
  | _ :: _ :: _, _, h => by simp [opf] at h
theorem inK_rd {kvs : List (Str × Int)} {neg : Bool} {v : V} {d : Addr} {es : Array DictEntry} {n : Nat} {Q : VK} (D : KDict X.K X.w d es n) (r : EntRel es.toList kvs) (h : rD P.G (opf (.inK kvs neg)) [v] H Q) :
    ∃ (z : Str) (r : Option Value), v = .str z ∧ PySem.W.nsIn X.K d z = some r ∧ Q (.bl (if neg then !r.isSome else r.isSome)) H := by
  obtain ⟨O, ds, sl, hr, od, hg, q⟩ := h
  cases hr with
  | cons h1 hr =>
    cases hr
    rename_i dx
    cases dx with
    | str z =>
      cases hg
      cases h1.str
      have k := ent_ns D r z
      revert k q
      cases kvs.lookup z with
      | none => exact fun q k => ⟨z, none, rfl, k, q _ _ (.vl (.bl _))⟩
      | some i =>
        rintro q ⟨t, k⟩
        exact ⟨z, _, rfl, k, q _ _ (.vl (.bl _))⟩
    | _ => cases hg
theorem ds_at (ok : Ok X W P Γ Φ k) {b : Expr} {kvs : List (Str × Int)} (h : dictOf Γ b = some kvs) : ∃ d es n, PE X b (tC (.ref d)) ∧ KDict X.K X.w d es n ∧ EntRel es.toList kvs := by
  unfold dictOf at h
  split at h
  · rename_i x p
    split at h
    · rename_i hg
      obtain ⟨a, h1, ⟨es, n, h2, h3⟩⟩ := ok.ds x kvs h
      obtain ⟨g1, g2, g3⟩ := ok.glob hg
      exact ⟨a, es, n, pe_glob g1 h1 rfl g2, h2, h3⟩
    · cases h
  · cases h
theorem pe_inK {kvs : List (Str × Int)} {o : CmpOp} {op : Op} (ok : Ok X W P Γ Φ k) (hb : dictOf Γ b = some kvs) (ho : inOp kvs o = some op) (hd : isDisp b = false) (ha : Snd X P W Φ a ca) : PE X (.Compare a [o] [b] pos) (tE P W Φ (.op op [ca])) ∧ PT X (.Compare a [o] [b] pos) (tT P W Φ (.op op [ca])) := by
  obtain ⟨d, es, n, hp, D, r⟩ := ds_at ok hb
  cases o with
  | In =>
    cases ho
    refine ⟨(pe_cmpR (op_in_kd D) ha.arg hp (not_marks hd)).weak fun σ H Q h => (args1 (op_args h)).imp fun v H1 q => ?_, (pt_cmpR (op_in_kd D) ha.arg hp (not_marks hd)).weak fun σ H Q ⟨O, ρ, R, h⟩ => (args1 (op_args (P := P) (W := W) (Φ := Φ) (Q := fun v H' => ∃ k, v = V.bl k ∧ Q k H') ⟨O, ρ, R, tru_bl (ρ := ρ) (fun p e => op_bl inK_bl e) h⟩)).imp fun v H1 q => ?_⟩
    · obtain ⟨z, r, rfl, h1, h2⟩ := inK_rd D r q
      exact ⟨z, r, rfl, rfl, h1, h2⟩
    · obtain ⟨z, r, rfl, h1, h2⟩ := inK_rd D r q
      exact ⟨z, r, rfl, rfl, h1, h2⟩
  | NotIn =>
    cases ho
    refine ⟨(pe_cmpR (op_notIn_kd D) ha.arg hp (not_marks hd)).weak fun σ H Q h => (args1 (op_args h)).imp fun v H1 q => ?_, (pt_cmpR (op_notIn_kd D) ha.arg hp (not_marks hd)).weak fun σ H Q ⟨O, ρ, R, h⟩ => (args1 (op_args (P := P) (W := W) (Φ := Φ) (Q := fun v H' => ∃ k, v = V.bl k ∧ Q k H') ⟨O, ρ, R, tru_bl (ρ := ρ) (fun p e => op_bl inK_bl e) h⟩)).imp fun v H1 q => ?_⟩
    · obtain ⟨z, r, rfl, h1, h2⟩ := inK_rd D r q
      exact ⟨z, r, rfl, rfl, h1, h2⟩
    · obtain ⟨z, r, rfl, h1, h2⟩ := inK_rd D r q
      exact ⟨z, r, rfl, rfl, h1, h2⟩
  | _ => cases ho
theorem pe_ixK {kvs : List (Str × Int)} (ok : Ok X W P Γ Φ k) (hb : dictOf Γ b = some kvs) (hs : isSlice a = false) (ha : Snd X P W Φ a ca) : PE X (.Subscript b a pos) (tE P W Φ (.op (.ixK kvs) [ca])) := by
  obtain ⟨d, es, n, hp, D, r⟩ := ds_at ok hb
  refine (pe_ix ix_kdict hp ha.arg (plain_ix hs)).weak fun σ H Q h => (args1 (op_args h)).imp fun v H1 q => ?_
  obtain ⟨O, ds, sl, hr, od, hg, q⟩ := q
  cases hr with
  | cons h1 hr =>
    cases hr
    rename_i dx
    cases dx with
    | str z =>
      cases h1.str
      replace hg : (kvs.lookup z).map (fun i => Slot.val (.int i)) = some sl := hg
      obtain ⟨i, hi, rfl⟩ := Option.map_eq_some_iff.mp hg
      have k := ent_ns D r z
      rw [hi] at k
      obtain ⟨t, k⟩ := k
      exact ⟨d, z, .int i, rfl, rfl, ⟨es, n, _, D.at_, D.lit, k, ⟨t, rfl⟩⟩, q _ _ (.vl (.int _))⟩
    | _ => cases hg
end
end DL
namespace DL
open PySem L2
/-! ## targets -/
theorem wipe_set {σ : St} {i : Nat} {v : Option V} : ∀ {vs : List Nat}, i ∈ vs → wipe (σ.set i v) vs = wipe σ vs
  | [], h => by cases h
  | w :: vs, h => by
    by_cases hw : i ∈ vs
    · show (wipe (σ.set i v) vs).set w none = (wipe σ vs).set w none
      rw [wipe_set hw]
    · have e : w = i := by
        rcases List.mem_cons.mp h with h | h
        · exact h.symm
        · exact absurd h hw
      subst e
      show (wipe (σ.set w v) vs).set w none = (wipe σ vs).set w none
      have comm : ∀ (vs : List Nat), w ∉ vs → wipe (σ.set w v) vs = (wipe σ vs).set w v := fun vs => by
        induction vs with
        | nil => intro _; rfl
        | cons a r ih =>
          intro hn
          simp only [List.mem_cons, not_or] at hn
          show (wipe (σ.set w v) r).set a none = ((wipe σ r).set a none).set w v
          rw [ih hn.2, List.set_comm _ _ hn.1]
      rw [comm vs hw, List.set_set]
section
variable {X : Cx} {W : WX} {P : Pm} {Γ : Ctx} {Φ : Nat → Fn} {k : Nat} {σ : St} {H : Hp} {pos : Pos}
def tGt (P : Pm) (t : T) : TG := fun v σ H Q => ∃ O ρ s ρ', Rel P O ρ σ H ∧ RepR P O ρ σ H v s ∧ assignT t s ρ = some ρ' ∧ ∀ O' σ', Rel P O' ρ' σ' H → Ext O H O' H → (∀ vs, t.inn vs = true → wipe σ' vs = wipe σ vs) → Q σ' H
def tGts (P : Pm) (ts : List T) : TGs := fun v σ H Q => ∃ O ρ ds ρ', Rel P O ρ σ H ∧ Reps P.G (cut H O) v ds ∧ assignTs ts ds ρ = some ρ' ∧ ∀ O' σ', Rel P O' ρ' σ' H → Ext O H O' H → (∀ vs, T.inns vs ts = true → wipe σ' vs = wipe σ vs) → Q σ' H
theorem _root_.L2.PG.weak {e : Expr} {t t' : TG} (h : PG X e t) (k : ∀ v σ H Q, t' v σ H Q → t v σ H Q) : PG X e t' := ⟨fun pins s σ H v u Q I r z => h.run pins s σ H v u Q I r (k _ _ _ _ z)⟩
theorem _root_.L2.PGs.weak {e : List Expr} {t t' : TGs} (h : PGs X e t) (k : ∀ v σ H Q, t' v σ H Q → t v σ H Q) : PGs X e t' := ⟨fun pins s σ H v u Q I r z => h.run pins s σ H v u Q I r (k _ _ _ _ z)⟩
theorem pg_or {e : Expr} {t t' : TG} (h : PG X e t) (h' : PG X e t') : PG X e (fun v σ H Q => t v σ H Q ∨ t' v σ H Q) := ⟨fun pins s σ H v u Q I r z => z.elim (h.run pins s σ H v u Q I r) (h'.run pins s σ H v u Q I r)⟩
theorem each_nst {e : Expr} (h : nst e = true) (es : List Expr) (env : PySem.Env) : assignEach (e :: es) env = (false, assign e env) :: assignEach es env := by
  cases e <;> first | rfl | cases h
theorem each_len {env : PySem.Env} : ∀ {es : List Expr}, es.all nst = true → (assignEach es env).length = es.length ∧ (assignEach es env).findIdx? (·.1) = none
  | [], _ => ⟨rfl, rfl⟩
  | e :: es, h => by
    rw [List.all_cons, Bool.and_eq_true] at h
    rw [each_nst h.1]
    obtain ⟨h1, h2⟩ := each_len (env := env) h.2
    refine ⟨by simp [h1], ?_⟩
    rw [List.findIdx?_cons, if_neg (by simp), h2]; rfl
theorem setT (R : Rel P O ρ σ H) {i : Nat} {o : Bool} {s : Slot} {v : V} {ρ' : Sts} (hs : RepR P O ρ σ H v s) (h : assignT (.name i o) s ρ = some ρ') : ∃ O', Rel P O' ρ' (σ.set i (some v)) H ∧ Ext O H O' H := by
  replace h : (if i < ρ.length then some (ρ.set i (if o then s else .val s.d)) else none) = some ρ' := h
  split at h
  · rename_i hi
    cases h
    cases s with
    | val d =>
      have e : (if o = true then Slot.val d else .val (Slot.val d).d) = .val d := by cases o <;> rfl
      rw [e]
      exact ⟨O, R.setV hi hs, .refl⟩
    | own d =>
      cases o with
      | true =>
        rw [if_pos rfl]
        obtain ⟨a, rfl, h1, h2, h3, h4⟩ := hs
        exact ⟨O, R.setO hi h1 h2 h3 h4, .refl⟩
      | false =>
        rw [if_neg Bool.false_ne_true]
        obtain ⟨O', R', x, r⟩ := RepR.rel R hs
        exact ⟨O', R'.setV hi r, x⟩
    | emp => exact hs.elim
    | io _ => exact hs.elim
  · cases h
theorem Ok.tgt (ok : Ok X W P Γ Φ k) {x : Str} {p : Pos} {i : Nat} (ha : Γ.asgn x = true) (hi : ixOf Γ.N x = some i) : PG X (.Name x p) (gName i) := by
  have h1 : X.N[i]? = some x := by rw [ok.N]; exact ixOf_at hi
  have hN : X.N.Nodup := by rw [ok.N]; exact ok.nd
  unfold Ctx.asgn at ha
  split at ha
  · rename_i e
    have e' : X.env.scope.names.lookup x = some .local := by rw [ok.sc]; exact e
    exact pg_name hN h1 (.inl e') (.inr e')
  · rename_i e
    have e' : X.env.scope.names.lookup x = some .cell := by rw [ok.sc]; exact e
    exact pg_name hN h1 (.inr e') (.inl (ok.fn x ha))
  · cases ha
theorem tgt_snd (ok : Ok X W P Γ Φ k) : ∀ (n : Nat) (e : Expr) (t : T), tgtE n Γ e = some t → PG X e (tGt P t)
  | 0, _, _, h => by cases h
  | n + 1, .Name x p, t, h => by
    replace h : (if Γ.asgn x then (ixOf Γ.N x).map fun i => T.name i (Γ.M.contains x) else none) = some t := h
    split at h
    · rename_i ha
      obtain ⟨i, hi, rfl⟩ := Option.map_eq_some_iff.mp h
      refine (ok.tgt ha hi).weak fun v σ H Q ⟨O, ρ, s, ρ', Z, hs, hA, q⟩ => ?_
      obtain ⟨O', Z', x⟩ := setT Z hs hA
      refine q O' _ Z' x fun vs hv => wipe_set ?_
      simpa [T.inn] using hv
    · cases h
  | n + 1, .Tuple es kk p, t, h => by
    replace h : (if es.all nst then (es.mapM (tgtE n Γ)).map T.tup else none) = some t := h
    split at h
    · rename_i hn
      obtain ⟨ts, hm, rfl⟩ := Option.map_eq_some_iff.mp h
      have all : ∀ (es : List Expr) (ts : List T), es.all nst = true → es.mapM (tgtE n Γ) = some ts → PGs X es (tGts P ts) ∧ ts.length = es.length := fun es => by
        induction es with
        | nil =>
          intro ts _ hm
          have : ts = [] := by simpa using hm.symm
          subst this
          refine ⟨pgs_nil.weak fun v σ H Q ⟨O, ρ, ds, ρ', Z, hr, hA, q⟩ => ?_, rfl⟩
          cases ds with
          | nil =>
            cases hr
            cases hA
            exact ⟨rfl, q O σ Z .refl fun _ _ => rfl⟩
          | cons _ _ => cases hA
        | cons e es ih =>
          intro ts hn hm
          rw [List.all_cons, Bool.and_eq_true] at hn
          simp only [List.mapM_cons, bind, Option.bind_eq_some_iff, pure, Option.some.injEq] at hm
          obtain ⟨t, h1, ts', h2, rfl⟩ := hm
          obtain ⟨q1, q2⟩ := ih ts' hn.2 h2
          refine ⟨(pgs_cons (tgt_snd ok n e t h1) q1 (by rw [each_nst hn.1]; rfl)).weak fun v σ H Q ⟨O, ρ, ds, ρ', Z, hr, hA, q⟩ => ?_, by simp [q2]⟩
          cases ds with
          | nil => cases hA
          | cons d ds =>
            cases hr with
            | cons r1 r2 =>
              replace hA : (assignT t (.val d) ρ).bind (fun ρ1 => assignTs ts' ds ρ1) = some ρ' := hA
              obtain ⟨ρ1, a1, a2⟩ := Option.bind_eq_some_iff.mp hA
              refine ⟨_, _, rfl, O, ρ, .val d, ρ1, Z, r1, a1, fun O1 σ1 Z1 x1 w1 => ?_⟩
              refine ⟨O1, ρ1, ds, ρ', Z1, x1.reps r2, a2, fun O2 σ2 Z2 x2 w2 => q O2 σ2 Z2 (x1.trans x2) fun vs hv => ?_⟩
              replace hv : (t.inn vs && T.inns vs ts') = true := hv
              rw [Bool.and_eq_true] at hv
              rw [w2 vs hv.2, w1 vs hv.1]
      obtain ⟨q1, q2⟩ := all es ts hn hm
      obtain ⟨l1, l2⟩ := each_len (env := X.env) hn
      refine (pg_or (pg_tup (n := es.length) ok.calm q1 l1 l2) (pg_lst (n := es.length) ok.calm q1 l1 l2)).weak fun v σ H Q ⟨O, ρ, s, ρ', Z, hs, hA, q⟩ => ?_
      obtain ⟨O1, Z1, x1, r1⟩ := RepR.rel Z hs
      replace hA : (match s.d with
        | .tup xs => if xs.length = ts.length then assignTs ts xs ρ else none
        | .lst xs => if xs.length = ts.length then assignTs ts xs ρ else none
        | _ => none) = some ρ' := hA
      split at hA
      · rename_i xs e
        split at hA
        · rename_i hl
          rw [e] at r1
          cases r1 with
          | tup h1 h2 =>
            exact .inl ⟨_, _, rfl, ok.K ▸ SqT.full h1, by rw [h2.length, hl, q2], O1, ρ, xs, ρ', Z1, h2, hA, fun O2 σ2 Z2 x2 w2 => q O2 σ2 Z2 (x1.trans x2) w2⟩
        · cases hA
      · rename_i xs e
        split at hA
        · rename_i hl
          rw [e] at r1
          cases r1 with
          | lst h1 h2 =>
            exact .inr ⟨_, _, rfl, .of (cut_le h1), by rw [h2.length, hl, q2], O1, ρ, xs, ρ', Z1, h2, hA, fun O2 σ2 Z2 x2 w2 => q O2 σ2 Z2 (x1.trans x2) w2⟩
        · cases hA
      · cases hA
    · cases h
  | n + 1, .BoolOp .., _, h | n + 1, .NamedExpr .., _, h | n + 1, .BinOp .., _, h | n + 1, .UnaryOp .., _, h | n + 1, .Lambda .., _, h | n + 1, .IfExp .., _, h | n + 1, .Dict .., _, h | n + 1, .Set .., _, h
  | n + 1, .ListComp .., _, h | n + 1, .SetComp .., _, h | n + 1, .DictComp .., _, h | n + 1, .GeneratorExp .., _, h | n + 1, .Await .., _, h | n + 1, .Yield .., _, h | n + 1, .YieldFrom .., _, h | n + 1, .Compare .., _, h
  | n + 1, .Call .., _, h | n + 1, .FormattedValue .., _, h | n + 1, .JoinedStr .., _, h | n + 1, .Constant .., _, h | n + 1, .Attribute .., _, h | n + 1, .Subscript .., _, h | n + 1, .Starred .., _, h | n + 1, .List .., _, h | n + 1, .Slice .., _, h => by cases h

/-! ## what is walked -/
structure Wk (P : Pm) (O : List Addr) (H : Hp) (J : It) (items : List D) : Prop where
  go : ∀ i O' H', i < items.length → Ext O H O' H' → J.go i H'
  stop : ∀ O' H', Ext O H O' H' → J.stop items.length H'
  yld : ∀ i O' H' x H'', i < items.length → Ext O H O' H' → (∀ a ∈ O', ∃ o, H' a = some o ∧ Mut (some o)) → J.yld i H' x H'' → Same H' H'' ∧ ∃ d, items[i]? = some d ∧ Rep P.G (cut H'' O') x d
theorem wk_of {O : List Addr} {J : It} {n : Nat} {G' : Hp → Prop} {Y : Nat → Hp → V → Hp → Prop} {items : List D} (w : Walk J n G' Y) (hn : items.length = n) (hg : ∀ O' H', Ext O H O' H' → G' H')
    (hy : ∀ i O' H' x H'', i < n → Ext O H O' H' → (∀ a ∈ O', ∃ o, H' a = some o ∧ Mut (some o)) → Y i H' x H'' → Same H' H'' ∧ ∃ d, items[i]? = some d ∧ Rep P.G (cut H'' O') x d) : Wk P O H J items := by
  subst hn
  exact ⟨fun i O' H' hi e => w.goes i H' hi (hg O' H' e), fun O' H' e => w.stops H' (hg O' H' e), fun i O' H' x H'' hi e od y => hy i O' H' x H'' hi e od (w.yields i H' x H'' hi (hg O' H' e) y)⟩
theorem same_refl : Same H H := fun _ _ h => h
theorem wk_list {K : PySem.W.Frag} {O : List Addr} {a : Addr} {xs : List V} {ds : List D} (h : L2.SqL K (cut H O) a xs) (r : Reps P.G (cut H O) xs ds) : Wk P O H (Itl K a) ds :=
  wk_of walk_list r.length.symm (fun O' H' e => SqL.full (SqL.mono e.cuts h)) fun i O' H' x H'' hi e _ ⟨e1, e2⟩ => by
    subst e1
    obtain ⟨d, h1, h2⟩ := (e.reps r).getV e2
    exact ⟨same_refl, d, h1, h2⟩
theorem wk_tup {K : PySem.W.Frag} {O : List Addr} {a : Addr} {xs : List V} {ds : List D} (h : L2.SqT K (cut H O) a xs) (r : Reps P.G (cut H O) xs ds) : Wk P O H (Itt K a) ds :=
  wk_of walk_tup r.length.symm (fun O' H' e => SqT.full (SqT.mono e.cuts h)) fun i O' H' x H'' hi e _ ⟨e1, e2⟩ => by
    subst e1
    obtain ⟨d, h1, h2⟩ := (e.reps r).getV e2
    exact ⟨same_refl, d, h1, h2⟩
theorem wk_str {O : List Addr} {z : Str} : Wk P O H (Its z) (signsD z) :=
  wk_of walk_str (by simp [signsD]) (fun _ _ _ => trivial) fun i O' H' x H'' hi e _ ⟨e1, c, e2, e3⟩ => by
    subst e1 e3
    refine ⟨same_refl, _, ?_, .str _⟩
    unfold signsD
    rw [List.getElem?_map, Array.getElem?_toList, e2]; rfl
theorem wk_range {O : List Addr} {lo : Int} {n : Nat} : Wk P O H (Itr lo n) ((List.range n).map fun k => D.int (lo + (k : Nat))) :=
  wk_of walk_range (by simp) (fun _ _ _ => trivial) fun i O' H' x H'' hi e _ ⟨e1, e2⟩ => by
    subst e1 e2
    exact ⟨same_refl, .int (lo + i), by rw [List.getElem?_map, List.getElem?_range hi]; rfl, .int _⟩
theorem pair_new {P : Pm} {H : Hp} {O : List Addr} {T : Addr} {x y : V} {d e : D} (od : ∀ a ∈ O, ∃ o, H a = some o ∧ Mut (some o)) (hT : H T = none) (h1 : Rep P.G (cut H O) x d) (h2 : Rep P.G (cut H O) y e) :
    Same H (upd H T (.tup [x, y])) ∧ Rep P.G (cut (upd H T (.tup [x, y])) O) (.ref T) (.tup [d, e]) := by
  have := Res.nt (G := P.G) od hT (.cons h1 (.cons h2 .nil))
  exact this
theorem wk_enum {K : PySem.W.Frag} {O : List Addr} {a : Addr} {xs : List V} {ds : List D} (h : L2.SqL K (cut H O) a xs) (r : Reps P.G (cut H O) xs ds) : Wk P O H (Ite K a) ((List.range ds.length).zipWith (fun (i : Nat) x => D.tup [.int i, x]) ds) :=
  wk_of walk_enum (by simp [r.length]) (fun O' H' e => SqL.full (SqL.mono e.cuts h)) fun i O' H' v H'' hi e od ⟨T, x, y, e1, hT, e2, e3, e4⟩ => by
    subst e1 e2
    cases e3
    obtain ⟨d, h1, h2⟩ := (e.reps r).getV e4
    obtain ⟨s, q⟩ := pair_new (P := P) od hT (.int (i : Nat)) h2
    refine ⟨s, _, ?_, q⟩
    rw [List.getElem?_zipWith, h1, List.getElem?_range (List.getElem?_eq_some_iff.mp h1).1]
theorem wk_zip {K : PySem.W.Frag} {O : List Addr} {a b : Addr} {xs ys : List V} {ds es : List D} (h : L2.SqL K (cut H O) a xs) (h' : L2.SqL K (cut H O) b ys) (r : Reps P.G (cut H O) xs ds) (r' : Reps P.G (cut H O) ys es) : Wk P O H (Itz K a b) (ds.zipWith (fun x y => D.tup [x, y]) es) :=
  wk_of (walk_zip rfl) (by simp [r.length, r'.length]) (fun O' H' e => ⟨SqL.full (SqL.mono e.cuts h), SqL.full (SqL.mono e.cuts h')⟩) fun i O' H' v H'' hi e od ⟨T, x, y, e1, hT, e2, e3, e4⟩ => by
    subst e1 e2
    obtain ⟨d, h1, h2⟩ := (e.reps r).getV e3
    obtain ⟨d', h1', h2'⟩ := (e.reps r').getV e4
    obtain ⟨s, q⟩ := pair_new (P := P) od hT h2 h2'
    refine ⟨s, _, ?_, q⟩
    rw [List.getElem?_zipWith, h1, h1']
end
end DL
namespace DL
open PySem L2
section
variable {X : Cx} {W : WX} {P : Pm} {Γ : Ctx} {Φ : Nat → Fn} {k : Nat} {tg : Expr}
theorem wk_zipT {H : Hp} {K : PySem.W.Frag} {O : List Addr} {a b : Addr} {xs ys : List V} {ds es : List D} (h : L2.SqT K (cut H O) a xs) (h' : L2.SqT K (cut H O) b ys) (r : Reps P.G (cut H O) xs ds) (r' : Reps P.G (cut H O) ys es) : Wk P O H (RZ.ItzT K a b) (ds.zipWith (fun x y => D.tup [x, y]) es) := by
  have ln : (ds.zipWith (fun x y => D.tup [x, y]) es).length = min xs.length ys.length := by simp [r.length, r'.length]
  refine ⟨fun i O' H' hi e => ?_, fun O' H' e => ?_, fun i O' H' v H'' hi e od y => ?_⟩
  · rw [ln] at hi
    have h1 : i < xs.length := by omega
    have h2 : i < ys.length := by omega
    exact ⟨xs, ys, xs[i], ys[i], SqT.full (SqT.mono e.cuts h), SqT.full (SqT.mono e.cuts h'), by simp [h1], by simp [h2]⟩
  · refine ⟨xs, ys, SqT.full (SqT.mono e.cuts h), SqT.full (SqT.mono e.cuts h'), ?_⟩
    rw [ln]; omega
  · obtain ⟨T, x, y, e1, hT, e2, e3, e4⟩ := y
    subst e1 e2
    obtain ⟨d, h1, h2⟩ := (e.reps r).getV (e3 xs (SqT.full (SqT.mono e.cuts h)))
    obtain ⟨d', h1', h2'⟩ := (e.reps r').getV (e4 ys (SqT.full (SqT.mono e.cuts h')))
    obtain ⟨s, q⟩ := pair_new (P := P) od hT h2 h2'
    refine ⟨s, _, ?_, q⟩
    rw [List.getElem?_zipWith, h1, h1']
theorem sqK_mono {kd : ZX.Kd} {K : PySem.W.Frag} {H : Hp} {O O' : List Addr} {H' : Hp} {a : Addr} {xs : List V} (e : Ext O H O' H') (h : ZX.SqK kd K (cut H O) a xs) : ZX.SqK kd K H' a xs := by
  cases kd
  · exact SqL.full (SqL.mono e.cuts h)
  · exact SqT.full (SqT.mono e.cuts h)
theorem wk_zipX {kx ky : ZX.Kd} {H : Hp} {K : PySem.W.Frag} {O : List Addr} {a b : Addr} {xs ys : List V} {ds es : List D} (h : ZX.SqK kx K (cut H O) a xs) (h' : ZX.SqK ky K (cut H O) b ys) (r : Reps P.G (cut H O) xs ds) (r' : Reps P.G (cut H O) ys es) : Wk P O H (ZX.Itx kx ky K a b) (ds.zipWith (fun x y => D.tup [x, y]) es) := by
  have ln : (ds.zipWith (fun x y => D.tup [x, y]) es).length = min xs.length ys.length := by simp [r.length, r'.length]
  refine ⟨fun i O' H' hi e => ?_, fun O' H' e => ?_, fun i O' H' v H'' hi e od y => ?_⟩
  · rw [ln] at hi
    have h1 : i < xs.length := by omega
    have h2 : i < ys.length := by omega
    exact ⟨xs, ys, xs[i], ys[i], sqK_mono e h, sqK_mono e h', by simp [h1], by simp [h2]⟩
  · refine ⟨xs, ys, sqK_mono e h, sqK_mono e h', ?_⟩
    rw [ln]; omega
  · obtain ⟨T, x, y, e1, hT, e2, e3, e4⟩ := y
    subst e1 e2
    obtain ⟨d, h1, h2⟩ := (e.reps r).getV (e3 xs (sqK_mono e h))
    obtain ⟨d', h1', h2'⟩ := (e.reps r').getV (e4 ys (sqK_mono e h'))
    obtain ⟨s, q⟩ := pair_new (P := P) od hT h2 h2'
    refine ⟨s, _, ?_, q⟩
    rw [List.getElem?_zipWith, h1, h1']
/-- the walked source -/
def srcR (Φ : Nat → Fn) (kd : Sk) (src : List E) (ρ : Sts) : R Sts (List D × Sts) := (evVs Φ src ρ).bind fun p => match srcf kd p.1 with
  | some items => .ok (items, p.2)
  | none => .bad
def tSrc (P : Pm) (W : WX) (Φ : Nat → Fn) (kd : Sk) (src : List E) : TI := fun σ H R => ∃ O ρ, Rel P O ρ σ H ∧ Aft P W σ O H (srcR Φ kd src ρ) fun items ρ' O' H' => ∀ J, Wk P O' H' J items → R J H'
theorem _root_.L2.PI.weak {X : Cx} {tg e : Expr} {t t' : TI} (h : PI X tg e t) (k : ∀ σ H Q, t' σ H Q → t σ H Q) : PI X tg e t' := ⟨fun pins s σ H R I z => h.run pins s σ H R I (k _ _ _ z)⟩
theorem pi_or {e : Expr} {t t' : TI} (h : PI X tg e t) (h' : PI X tg e t') : PI X tg e (fun σ H R => t σ H R ∨ t' σ H R) := ⟨fun pins s σ H R I z => z.elim (h.run pins s σ H R I) (h'.run pins s σ H R I)⟩
theorem _root_.DL.Aft.eq {α : Type} {σ : St} {O : List Addr} {H : Hp} {r : R Sts (α × Sts)} {kk : α → Sts → List Addr → Hp → Prop} (h : Aft P W σ O H r kk) : Aft P W σ O H r fun a ρ' O' H' => r = .ok (a, ρ') ∧ kk a ρ' O' H' := by
  cases r with
  | ok p => exact fun O' H' Z x => ⟨rfl, h O' H' Z x⟩
  | exc c x ρ' => exact h
  | bad => exact h
theorem evVs_len : ∀ {es : List E} {ρ : Sts} {p : List D × Sts}, evVs Φ es ρ = .ok p → p.1.length = es.length
  | [], ρ, p, h => by cases h; rfl
  | e :: es, ρ, p, h => by
    replace h : ((rel (ev Φ e ρ)).bind fun p => (evVs Φ es p.2).map fun q => (p.1 :: q.1, q.2)) = .ok p := h
    cases h1 : rel (ev Φ e ρ) with
    | exc _ _ _ => rw [h1] at h; cases h
    | bad => rw [h1] at h; cases h
    | ok p1 =>
      rw [h1, R.bind_ok] at h
      cases h2 : evVs Φ es p1.2 with
      | exc _ _ _ => rw [h2] at h; cases h
      | bad => rw [h2] at h; cases h
      | ok p2 =>
        rw [h2, R.map_ok] at h
        cases h
        simp [evVs_len h2]
theorem src_rd {σ : St} {H : Hp} {kd : Sk} {src : List E} {R : It → Hp → Prop} (h : tSrc P W Φ kd src σ H R) : tVs P W (fun ρ => evVs Φ src ρ) σ H fun vs H1 => ∃ O ds items, ds.length = src.length ∧ Reps P.G (cut H1 O) vs ds ∧ srcf kd ds = some items ∧ ∀ J, Wk P O H1 J items → R J H1 := by
  obtain ⟨O, ρ, Z, a⟩ := h
  refine ⟨O, ρ, Z, ?_⟩
  unfold srcR at a
  refine a.bind.eq.imp fun ds ρ1 O1 H1 R1 _ ⟨eq, q⟩ vs rv => ?_
  dsimp only at q
  split at q
  · rename_i items hi
    exact ⟨O1, ds, items, evVs_len eq, rv, hi, Aft.now (P := P) (W := W) (α := List D) q R1⟩
  · exact q.elim
theorem evVs1 {c : E} {ρ : Sts} : evVs Φ [c] ρ = (rel (ev Φ c ρ)).map fun p => ([p.1], p.2) := by
  show ((rel (ev Φ c ρ)).bind fun p => (R.ok ([], p.2)).map fun q => (p.1 :: q.1, q.2)) = _
  cases rel (ev Φ c ρ) <;> rfl
theorem get1s {G : Gx} {H : Hp} {vs : List V} {d : D} (r : Reps G H vs [d]) : ∃ v, vs = [v] ∧ Rep G H v d := by
  cases r with
  | cons h r => cases r; exact ⟨_, rfl, h⟩
theorem pi_it {e : Expr} {c : E} (hK : P.G.K = X.K) (h : PE X e (tE P W Φ c)) : PI X tg e (tSrc P W Φ .it [c]) := by
  have hv := tV_of h
  refine (pi_or (pi_list (tg := tg) hv) (pi_or (pi_tup (tg := tg) hv) (pi_str (tg := tg) hv))).weak fun σ H RR ⟨O, ρ, Z, a⟩ => ?_
  -- by what it gives
  have key : ∀ {d : D} {ρ' : Sts}, rel (ev Φ c ρ) = .ok (d, ρ') → ∀ {Q : VK}, (∀ O' H', Rel P O' ρ' σ H' → Ext O H O' H' → ∀ v, Rep P.G (cut H' O') v d → Q v H') → tV P W (fun ρ => rel (ev Φ c ρ)) σ H Q := fun {d ρ'} e {Q} q => ⟨O, ρ, Z, by
    dsimp only; rw [e]; exact q⟩
  unfold srcR at a
  rw [evVs1] at a
  cases e : rel (ev Φ c ρ) with
  | bad => rw [e] at a; exact a.elim
  | exc cc x ρ' =>
    rw [e] at a
    exact .inl ⟨O, ρ, Z, by dsimp only; rw [e]; exact a⟩
  | ok p =>
    obtain ⟨d, ρ'⟩ := p
    rw [e] at a
    replace a : Aft P W σ O H (match srcf .it [d] with
      | some items => (R.ok (items, ρ') : R Sts (List D × Sts))
      | none => .bad) fun items ρ' O' H' => ∀ J, Wk P O' H' J items → RR J H' := a
    cases d with
    | lst xs =>
      refine .inl (key e fun O' H' Z' x v r => ?_)
      cases r with
      | lst q r => exact ⟨_, rfl, ⟨_, .of (cut_le q)⟩, a O' H' Z' x _ (wk_list (.of q) r)⟩
    | rol xs =>
      refine .inl (key e fun O' H' Z' x v r => ?_)
      cases r with
      | rol q r => exact ⟨_, rfl, ⟨_, SqL.full (hK ▸ q)⟩, a O' H' Z' x _ (wk_list (hK ▸ q) r)⟩
    | tup xs =>
      refine .inr (.inl (key e fun O' H' Z' x v r => ?_))
      cases r with
      | tup q r => exact ⟨_, rfl, ⟨_, SqT.full (hK ▸ q)⟩, a O' H' Z' x _ (wk_tup (hK ▸ q) r)⟩
    | str z =>
      refine .inr (.inr (key e fun O' H' Z' x v r => ?_))
      cases r with
      | str => exact ⟨_, rfl, a O' H' Z' x _ wk_str⟩
    | non => exact a.elim
    | bl _ => exact a.elim
    | int _ => exact a.elim
    | dic _ => exact a.elim
    | fn _ => exact a.elim
    | ty _ => exact a.elim
theorem rng_of {i j : Int} {items : List D} (h : rngf i j = some items) : (-(2 ^ 62) ≤ i ∧ i < 2 ^ 62 ∧ -(2 ^ 62) ≤ j ∧ j < 2 ^ 62) ∧ items = (List.range (j - i).toNat).map fun k => D.int (i + (k : Nat)) := by
  unfold rngf at h
  split at h
  · rename_i c
    exact ⟨c, (Option.some.inj h).symm⟩
  · cases h
theorem pi_rng1 {a : Expr} {c : E} {p pos : Pos} (ok : Ok X W P Γ Φ k) (hx : Γ.bi "range" = true) (hn : nst a = true) (ha : Snd X P W Φ a c) : PI X tg (.Call (.Name "range" p) [a] [] pos) (tSrc P W Φ .rng [c]) := by
  obtain ⟨g1, g2, g3, g4⟩ := ok.bi hx
  refine (pi_range1 g1 g4 (SndL.cons hn ha .nil).vs (starEach_nst hn _ _)).weak fun σ H R h => (src_rd h).imp fun vs H1 ⟨O, ds, items, hl, r, hs, q⟩ => ?_
  match ds, hl, hs with
  | [.int j], _, hs =>
    obtain ⟨h1, rfl⟩ := rng_of hs
    obtain ⟨v, rfl, rv⟩ := get1s r
    cases rv
    refine ⟨j, rfl, h1.2.2.1, h1.2.2.2, q _ ?_⟩
    have := wk_range (P := P) (O := O) (H := H1) (lo := 0) (n := (j - 0).toNat)
    simpa using this
theorem pi_rng2 {a b : Expr} {c d : E} {p pos : Pos} (ok : Ok X W P Γ Φ k) (hx : Γ.bi "range" = true) (hn : nst a = true) (hn2 : nst b = true) (ha : Snd X P W Φ a c) (hb : Snd X P W Φ b d) : PI X tg (.Call (.Name "range" p) [a, b] [] pos) (tSrc P W Φ .rng [c, d]) := by
  obtain ⟨g1, g2, g3, g4⟩ := ok.bi hx
  refine (pi_range2 g1 g4 (SndL.cons hn ha (.cons hn2 hb .nil)).vs (by rw [starEach_nst hn, starEach_nst hn2]; rfl) (by rw [starEach_nst hn2]; rfl)).weak fun σ H R h => (src_rd h).imp fun vs H1 ⟨O, ds, items, hl, r, hs, q⟩ => ?_
  match ds, hl, hs with
  | [.int i, .int j], _, hs =>
    obtain ⟨h1, rfl⟩ := rng_of hs
    cases r with
    | cons r1 r =>
      obtain ⟨v, rfl, rv⟩ := get1s r
      cases r1
      cases rv
      exact ⟨i, j, rfl, h1, q _ wk_range⟩
theorem pi_enumD {a : Expr} {c : E} {p pos tpos : Pos} {elts : List Expr} {kk : Nat} (ok : Ok X W P Γ Φ k) (hx : Γ.bi "enumerate" = true) (hn : nst a = true) (ha : Snd X P W Φ a c) : PI X (.Tuple elts kk tpos) (.Call (.Name "enumerate" p) [a] [] pos) (tSrc P W Φ .enum [c]) := by
  obtain ⟨g1, g2, g3, g4⟩ := ok.bi hx
  refine (pi_enum g1 g4 (SndL.cons hn ha .nil).vs (starEach_nst hn _ _)).weak fun σ H R h => (src_rd h).imp fun vs H1 ⟨O, ds, items, hl, r, hs, q⟩ => ?_
  match ds, hl, hs with
  | [.lst xs], _, hs =>
    cases hs
    obtain ⟨v, rfl, rv⟩ := get1s r
    cases rv with
    | lst q1 r1 => exact ⟨_, _, rfl, .of (cut_le q1), q _ (wk_enum (.of q1) r1)⟩
theorem pi_zipD {a b : Expr} {c d : E} {p pos tpos : Pos} {elts : List Expr} {kk : Nat} (ok : Ok X W P Γ Φ k) (hx : Γ.bi "zip" = true) (hn : nst a = true) (hn2 : nst b = true) (ha : Snd X P W Φ a c) (hb : Snd X P W Φ b d) : PI X (.Tuple elts kk tpos) (.Call (.Name "zip" p) [a, b] [] pos) (tSrc P W Φ .zip [c, d]) := by
  obtain ⟨g1, g2, g3, g4⟩ := ok.bi hx
  have vs := (SndL.cons hn ha (.cons hn2 hb .nil)).vs
  refine (pi_or (RZ.pi_zipA g1 g4 vs (by rw [starEach_nst hn]) (by rw [starEach_nst hn2]; rfl)) (ZX.pi_x g1 g4 vs (by rw [starEach_nst hn]) (by rw [starEach_nst hn2]; rfl))).weak fun σ H RR h => ?_
  -- by what is zipped
  obtain ⟨O, ρ, Z, aa⟩ := h
  unfold srcR at aa
  cases e : evVs Φ [c, d] ρ with
  | bad => rw [e] at aa; exact aa.elim
  | exc cc x ρ' =>
    rw [e] at aa
    exact .inl ⟨O, ρ, Z, by dsimp only; rw [e]; exact aa⟩
  | ok pp =>
    obtain ⟨dd, ρ'⟩ := pp
    rw [e] at aa
    replace aa : Aft P W σ O H (match srcf .zip dd with
      | some items => (R.ok (items, ρ') : R Sts (List D × Sts))
      | none => .bad) fun items ρ' O' H' => ∀ J, Wk P O' H' J items → RR J H' := aa
    have key : ∀ (Q : List V → Hp → Prop), (∀ O' H', Rel P O' ρ' σ H' → Ext O H O' H' → ∀ vs, Reps P.G (cut H' O') vs dd → Q vs H') → tVs P W (fun ρ => evVs Φ [c, d] ρ) σ H Q := fun Q q => ⟨O, ρ, Z, by
      dsimp only; rw [e]; exact q⟩
    match dd, aa, key with
    | [.lst xs, .lst ys], aa, key =>
      refine .inl (key _ fun O' H' Z' x vs r => ?_)
      cases r with
      | cons r1 r =>
        obtain ⟨v, rfl, rv⟩ := get1s r
        cases r1 with
        | lst p1 s1 => cases rv with
          | lst p2 s2 => exact ⟨_, _, _, _, rfl, .inl ⟨.of (cut_le p1), .of (cut_le p2), aa O' H' Z' x _ (wk_zip (.of p1) (.of p2) s1 s2)⟩⟩
    | [.tup xs, .tup ys], aa, key =>
      refine .inl (key _ fun O' H' Z' x vs r => ?_)
      cases r with
      | cons r1 r =>
        obtain ⟨v, rfl, rv⟩ := get1s r
        cases r1 with
        | tup p1 s1 => cases rv with
          | tup p2 s2 => exact ⟨_, _, _, _, rfl, .inr ⟨ok.K ▸ SqT.full p1, ok.K ▸ SqT.full p2, aa O' H' Z' x _ (ok.K ▸ wk_zipT p1 p2 s1 s2)⟩⟩
    | [.lst xs, .tup ys], aa, key =>
      refine .inr (key _ fun O' H' Z' x vs r => ?_)
      cases r with
      | cons r1 r =>
        obtain ⟨v, rfl, rv⟩ := get1s r
        cases r1 with
        | lst p1 s1 => cases rv with
          | tup p2 s2 => exact ⟨.l, .t, _, _, _, _, rfl, .inl ⟨rfl, rfl⟩, .of (cut_le p1), ok.K ▸ SqT.full p2, aa O' H' Z' x _ (wk_zipX (kx := .l) (ky := .t) (.of p1) (ok.K ▸ p2) s1 s2)⟩
    | [.tup xs, .lst ys], aa, key =>
      refine .inr (key _ fun O' H' Z' x vs r => ?_)
      cases r with
      | cons r1 r =>
        obtain ⟨v, rfl, rv⟩ := get1s r
        cases r1 with
        | tup p1 s1 => cases rv with
          | lst p2 s2 => exact ⟨.t, .l, _, _, _, _, rfl, .inr ⟨rfl, rfl⟩, ok.K ▸ SqT.full p1, .of (cut_le p2), aa O' H' Z' x _ (wk_zipX (kx := .t) (ky := .l) (ok.K ▸ p1) (.of p2) s1 s2)⟩
    | [], aa, _ => exact aa.elim
    | [x], aa, _ => cases x <;> exact aa.elim
    | x :: y :: z :: l, aa, _ => cases x <;> cases y <;> exact aa.elim
    | [.non, _], aa, _ | [.bl _, _], aa, _ | [.int _, _], aa, _ | [.str _, _], aa, _ | [.dic _, _], aa, _ | [.fn _, _], aa, _ | [.ty _, _], aa, _ | [.rol _, _], aa, _ => exact aa.elim
    | [.lst _, .non], aa, _ | [.lst _, .bl _], aa, _ | [.lst _, .int _], aa, _ | [.lst _, .str _], aa, _ | [.lst _, .dic _], aa, _ | [.lst _, .fn _], aa, _ | [.lst _, .ty _], aa, _ | [.lst _, .rol _], aa, _ => exact aa.elim
    | [.tup _, .non], aa, _ | [.tup _, .bl _], aa, _ | [.tup _, .int _], aa, _ | [.tup _, .str _], aa, _ | [.tup _, .dic _], aa, _ | [.tup _, .fn _], aa, _ | [.tup _, .ty _], aa, _ | [.tup _, .rol _], aa, _ => exact aa.elim
end
end DL
namespace DL
open PySem L2
/-! ## comprehensions -/
def Pm.hid (P : Pm) (D : Addr) (o : HO) : Pm := { P with H0 := upd P.H0 D o, ex := D :: P.ex }
section
variable {P : Pm} {O : List Addr} {ρ : Sts} {σ : St} {H : Hp} {D : Addr} {o o' : HO}
theorem Rel.hidNew (R : Rel P O ρ σ H) (hD : H D = none) (m : Mut (some o)) : Rel (P.hid D o) (D :: O) ρ σ (upd H D o) := by
  obtain ⟨f1, f2, f3⟩ := R.fresh hD
  have N := R.new hD m
  refine ⟨N.len, N.val, fun i d e => ?_, N.io, N.dis, N.iod, fun b x h1 h2 => ?_, fun a h => ?_, N.odom, fun a h => ?_, fun a h => List.mem_cons_of_mem _ (R.sub a h)⟩
  · obtain ⟨a, h1, h2, h3, h4⟩ := N.own i d e
    refine ⟨a, h1, h2, fun z => ?_, h4⟩
    rcases List.mem_cons.mp z with rfl | z
    · obtain ⟨a', k1, k2, _⟩ := R.own i d e
      rw [h1] at k1; cases k1
      exact f1 k2
    · exact h3 z
  · replace h2 : upd P.H0 D o b = some x := h2
    by_cases hb : b = D
    · subst hb; rw [upd_same] at h2; rw [upd_same]; exact h2
    · rw [upd_ne hb] at h2
      exact N.fr b x h1 h2
  · show a ∈ D :: P.ex ∨ upd P.H0 D o a = none
    by_cases ha : a = D
    · exact .inl (by rw [ha]; exact List.mem_cons_self)
    · rw [upd_ne ha]
      exact (N.ofr a h).imp (List.mem_cons_of_mem _) id
  · rcases List.mem_cons.mp h with rfl | h
    · exact List.mem_cons_self
    · exact N.exs a h
theorem Rel.hidAt (R : Rel (P.hid D o) O ρ σ H) (hD : D ∉ P.ex) (hs : ∀ a ∈ P.ad, a ∈ P.ex) : H D = some o ∧ D ∈ O := by
  refine ⟨R.fr D o (fun m => hD (hs D m)) ?_, R.exs D List.mem_cons_self⟩
  show upd P.H0 D o D = some o
  rw [upd_same]
theorem Rel.hidChange (R : Rel (P.hid D o) O ρ σ H) (hD : D ∉ P.ex) (hs : ∀ a ∈ P.ad, a ∈ P.ex) (m : Mut (some o')) : Rel (P.hid D o') O ρ σ (upd H D o') := by
  obtain ⟨h1, h2⟩ := R.hidAt hD hs
  have ck := cut_in (H := H) (O := O) (o := o') h2
  have ot : ∀ b, b ≠ D → ∀ e, OwnAt P.G H O b e → OwnAt P.G (upd H D o') O b e := fun b hb e q => q.mono (fun x z => by rw [upd_ne hb]; exact z) (fun b x z => by rw [ck]; exact z)
  refine ⟨R.len, fun i d e => ?_, fun i d e => ?_, fun i d e => ?_, R.dis, R.iod, fun b x k1 k2 => ?_, fun a k => ?_, fun a k => ?_, R.exs, R.sub⟩
  · rw [ck]; exact R.val i d e
  · obtain ⟨a, k1, k2, k3, k4⟩ := R.own i d e
    have : a ≠ D := fun z => k3 (by rw [z]; exact List.mem_cons_self)
    exact ⟨a, k1, k2, k3, ot a this _ k4⟩
  · obtain ⟨a, k1, k2, k4⟩ := R.io i d e
    have : a ≠ D := fun z => hD (z ▸ hs a (List.mem_map.mpr ⟨_, k2, rfl⟩))
    exact ⟨a, k1, k2, ot a this _ k4⟩
  · replace k2 : upd P.H0 D o' b = some x := k2
    by_cases hb : b = D
    · subst hb; rw [upd_same] at k2; rw [upd_same]; exact k2
    · rw [upd_ne hb] at k2
      rw [upd_ne hb]
      exact R.fr b x k1 (by show upd P.H0 D o b = _; rw [upd_ne hb]; exact k2)
  · show a ∈ D :: P.ex ∨ upd P.H0 D o' a = none
    by_cases ha : a = D
    · exact .inl (by rw [ha]; exact List.mem_cons_self)
    · rw [upd_ne ha]
      have := R.ofr a k
      replace this : a ∈ D :: P.ex ∨ upd P.H0 D o a = none := this
      rw [upd_ne ha] at this
      exact this
  · by_cases hb : a = D
    · subst hb; exact ⟨o', upd_same, m⟩
    · obtain ⟨x, g1, g2⟩ := R.odom a k
      exact ⟨x, by rw [upd_ne hb]; exact g1, g2⟩
theorem Rel.hidOut (R : Rel (P.hid D o) O ρ σ H) (hD : D ∉ P.ex) (h0 : P.H0 D = none) (hs : ∀ a ∈ P.ad, a ∈ P.ex) : Rel P O ρ σ H ∧ Apart ρ σ D := by
  refine ⟨⟨R.len, R.val, fun i d e => ?_, R.io, R.dis, R.iod, fun b x k1 k2 => ?_, fun a k => ?_, R.odom, fun a k => R.exs a (List.mem_cons_of_mem _ k), hs⟩, fun i d e z => ?_⟩
  · obtain ⟨a, k1, k2, k3, k4⟩ := R.own i d e
    exact ⟨a, k1, k2, fun z => k3 (List.mem_cons_of_mem _ z), k4⟩
  · refine R.fr b x k1 ?_
    show upd P.H0 D o b = _
    rw [upd_ne (fun z => by rw [z, h0] at k2; cases k2)]; exact k2
  · by_cases ha : a = D
    · exact .inr (by rw [ha]; exact h0)
    · have := R.ofr a k
      replace this : a ∈ D :: P.ex ∨ upd P.H0 D o a = none := this
      rw [upd_ne ha] at this
      rcases this with h | h
      · rcases List.mem_cons.mp h with h | h
        · exact absurd h ha
        · exact .inl h
      · exact .inr h
  · obtain ⟨a, k1, k2, k3, k4⟩ := R.own i d e
    rw [z] at k1; cases k1
    exact k3 List.mem_cons_self
theorem wipeE_len : ∀ {vs : List Nat}, (wipeE ρ vs).length = ρ.length
  | [] => rfl
  | v :: vs => by unfold wipeE; rw [List.length_set, wipeE_len]
theorem wipeE_some {i : Nat} {s : Slot} (hs : s ≠ .emp) : ∀ {vs : List Nat}, (wipeE ρ vs)[i]? = some s → ρ[i]? = some s ∧ i ∉ vs
  | [], h => ⟨h, by simp⟩
  | v :: vs, h => by
    unfold wipeE at h
    by_cases hi : v = i
    · subst hi
      by_cases hv : v < (wipeE ρ vs).length
      · rw [List.getElem?_set_self hv] at h; cases h; exact absurd rfl hs
      · rw [List.getElem?_eq_none (by simpa using hv)] at h; cases h
    · rw [List.getElem?_set_ne hi] at h
      obtain ⟨h1, h2⟩ := wipeE_some hs h
      exact ⟨h1, by simp only [List.mem_cons, not_or]; exact ⟨fun e => hi e.symm, h2⟩⟩
theorem Rel.wipe (R : Rel P O ρ σ H) (vs : List Nat) : Rel P O (wipeE ρ vs) (L2.wipe σ vs) H := by
  refine ⟨by rw [wipeE_len, L2.wipe_length]; exact R.len, fun i d e => ?_, fun i d e => ?_, fun i d e => ?_, fun i j a s t e1 e2 q1 q2 => ?_, R.iod, R.fr, R.ofr, R.odom, R.exs, R.sub⟩
  · obtain ⟨e1, e2⟩ := wipeE_some (by simp) e
    rw [wipe_out e2]; exact R.val i d e1
  · obtain ⟨e1, e2⟩ := wipeE_some (by simp) e
    rw [wipe_out e2]; exact R.own i d e1
  · obtain ⟨e1, e2⟩ := wipeE_some (by simp) e
    rw [wipe_out e2]; exact R.io i d e1
  · obtain ⟨e3, e4⟩ := wipeE_some (by simp) e1
    obtain ⟨e5, e6⟩ := wipeE_some (by simp) e2
    rw [wipe_out e4] at q1
    rw [wipe_out e6] at q2
    exact R.dis i j a s t e3 e5 q1 q2
theorem backE_len {ρ0 : Sts} : ∀ {vs : List Nat}, (backE ρ0 ρ vs).length = ρ.length
  | [] => rfl
  | v :: vs => by unfold backE; rw [List.length_set, backE_len]
theorem backE_at {ρ0 : Sts} {i : Nat} {s : Slot} : ∀ {vs : List Nat}, (backE ρ0 ρ vs)[i]? = some s → (i ∈ vs ∧ s = ρ0.getD i .emp) ∨ (i ∉ vs ∧ ρ[i]? = some s)
  | [], h => .inr ⟨by simp, h⟩
  | v :: vs, h => by
    unfold backE at h
    by_cases hi : v = i
    · subst hi
      by_cases hv : v < (backE ρ0 ρ vs).length
      · rw [List.getElem?_set_self hv] at h; cases h; exact .inl ⟨List.mem_cons_self, rfl⟩
      · rw [List.getElem?_eq_none (by simpa using hv)] at h; cases h
    · rw [List.getElem?_set_ne hi] at h
      rcases backE_at h with ⟨h1, h2⟩ | ⟨h1, h2⟩
      · exact .inl ⟨List.mem_cons_of_mem _ h1, h2⟩
      · exact .inr ⟨by simp only [List.mem_cons, not_or]; exact ⟨fun e => hi e.symm, h1⟩, h2⟩
theorem getD_some {ρ0 : Sts} {i : Nat} {s : Slot} (hs : s ≠ .emp) (h : s = ρ0.getD i .emp) : ρ0[i]? = some s := by
  rw [List.getD_eq_getElem?_getD] at h
  cases e : ρ0[i]? with
  | none => rw [e] at h; exact absurd h hs
  | some t => rw [e] at h; rw [h]; rfl
theorem Rel.back {ρ0 : Sts} {O0 : List Addr} {H0 : Hp} {vs : List Nat} (R0 : Rel P O0 ρ0 σ H0) (hn : ownAny ρ0 vs = false) (x : Ext O0 H0 O H) (R : Rel P O ρ (L2.wipe σ vs) H) : Rel P O (backE ρ0 ρ vs) σ H := by
  have no : ∀ {i : Nat} {d : D}, i ∈ vs → (ρ0[i]? = some (.own d) ∨ ρ0[i]? = some (.io d)) → False := fun {i d} hi e => by
    have : ownAny ρ0 vs = true := List.any_eq_true.mpr ⟨i, hi, by
      unfold isOwn
      rcases e with e | e <;> rw [e] <;> rfl⟩
    rw [hn] at this; cases this
  have hv : ∀ {i : Nat} {d : D}, (backE ρ0 ρ vs)[i]? = some (.own d) → i ∉ vs ∧ ρ[i]? = some (.own d) := fun {i d} e => by
    rcases backE_at e with ⟨h1, h2⟩ | h
    · exact (no h1 (.inl (getD_some (by simp) h2))).elim
    · exact h
  refine ⟨by rw [backE_len, ← R.len, L2.wipe_length], fun i d e => ?_, fun i d e => ?_, fun i d e => ?_, fun i j a s t e1 e2 q1 q2 => ?_, R.iod, R.fr, R.ofr, R.odom, R.exs, R.sub⟩
  · rcases backE_at e with ⟨h1, h2⟩ | ⟨h1, h2⟩
    · obtain ⟨v, k1, k2⟩ := R0.val i d (getD_some (by simp) h2)
      exact ⟨v, k1, x.rep k2⟩
    · obtain ⟨v, k1, k2⟩ := R.val i d h2
      rw [wipe_out h1] at k1
      exact ⟨v, k1, k2⟩
  · obtain ⟨h1, h2⟩ := hv e
    obtain ⟨v, k1, k2⟩ := R.own i d h2
    rw [wipe_out h1] at k1
    exact ⟨v, k1, k2⟩
  · rcases backE_at e with ⟨h1, h2⟩ | ⟨h1, h2⟩
    · exact (no h1 (.inr (getD_some (by simp) h2))).elim
    · obtain ⟨v, k1, k2⟩ := R.io i d h2
      rw [wipe_out h1] at k1
      exact ⟨v, k1, k2⟩
  · obtain ⟨h1, h2⟩ := hv e1
    obtain ⟨h3, h4⟩ := hv e2
    exact R.dis i j a s t h2 h4 (by rw [wipe_out h1]; exact q1) (by rw [wipe_out h3]; exact q2)
theorem wipe_mem {i : Nat} : ∀ {vs : List Nat}, i ∈ vs → i < σ.length → (L2.wipe σ vs)[i]? = some none
  | v :: vs, h, hl => by
    unfold L2.wipe
    by_cases hi : v = i
    · subst hi; rw [List.getElem?_set_self (by rw [L2.wipe_length]; exact hl)]
    · rw [List.getElem?_set_ne hi]
      rcases List.mem_cons.mp h with h | h
      · exact absurd h.symm hi
      · exact wipe_mem h hl
theorem wipe_idem {vs : List Nat} : L2.wipe (L2.wipe σ vs) vs = L2.wipe σ vs := by
  apply List.ext_getElem?
  intro i
  by_cases hi : i ∈ vs
  · by_cases hl : i < σ.length
    · rw [wipe_mem hi hl, wipe_mem hi (by rw [L2.wipe_length]; exact hl)]
    · rw [List.getElem?_eq_none (by rw [L2.wipe_length, L2.wipe_length]; omega), List.getElem?_eq_none (by rw [L2.wipe_length]; omega)]
  · rw [wipe_out hi]
end
section
variable {X : Cx} {W : WX} {P : Pm} {Γ : Ctx} {Φ : Nat → Fn} {k : Nat}
/-- readings under a hidden object -/
def xG (P : Pm) (t : T) : TG := fun v σ H Q => ∃ P' : Pm, P'.G = P.G ∧ tGt P' t v σ H Q
def xB (P : Pm) (r : Sts → R Sts (Bool × Sts)) : TT := fun σ H Q => ∃ P' : Pm, P'.G = P.G ∧ tB P' W0 r σ H Q
def xV (P : Pm) (r : Sts → R Sts (D × Sts)) : TE := fun σ H Q => ∃ P' : Pm, P'.G = P.G ∧ tV P' W0 r σ H Q
theorem ofO_ok {ε α : Type} {o : Option α} {a : α} (h : (R.ofO o : R ε α) = .ok a) : o = some a := by
  cases o with
  | none => cases h
  | some b => cases h; rfl
theorem bind_okR {ε α β : Type} {r : R ε α} {f : α → R ε β} {b : β} (h : r.bind f = .ok b) : ∃ a, r = .ok a ∧ f a = .ok b := by
  cases r with
  | ok a => exact ⟨a, rfl, h⟩
  | exc _ _ _ => cases h
  | bad => cases h
theorem map_okR {ε α β : Type} {r : R ε α} {f : α → β} {b : β} (h : r.map f = .ok b) : ∃ a, r = .ok a ∧ f a = b := by
  cases r with
  | ok a => exact ⟨a, rfl, by cases h; rfl⟩
  | exc _ _ _ => cases h
  | bad => cases h
theorem aft_ok {α : Type} {σ : St} {O : List Addr} {H : Hp} {a : α} {ρ : Sts} {kk : α → Sts → List Addr → Hp → Prop} {r : R Sts (α × Sts)} (e : r = .ok (a, ρ)) (h : ∀ O' H', Rel P O' ρ σ H' → Ext O H O' H' → kk a ρ O' H') : Aft P W σ O H r kk := by
  rw [e]; exact h
theorem lc_rd {vs : List Nat} {t : T} {kd : Sk} {src ifs : List E} {elt : E} {σ : St} {H : Hp} {Q : VK} (hin : t.inn vs = true) (h : tE P W Φ (.lc vs t kd src ifs elt) σ H Q) :
    tLc (tSrc P W Φ kd src) (xG P t) (xB P fun ρ => evTs Φ ifs ρ) (xV P fun ρ => rel (ev Φ elt ρ)) vs σ H Q := by
  obtain ⟨O, ρ, Z, a⟩ := h
  refine ⟨O, ρ, Z, ?_⟩
  have a2 : Aft P W σ O H ((srcR Φ kd src ρ).bind fun p => if ownAny p.2 vs then .bad else
        (noExc (lcLoop vs t (fun ρ => evTs Φ ifs ρ) (fun ρ => rel (ev Φ elt ρ)) p.1 [] (wipeE p.2 vs))).map fun q => (.own (.lst q.1), backE p.2 q.2 vs)) fun s ρ' O' H' => ∀ v, RepR P O' ρ' σ H' v s → Q v H' := by
    have e : ev Φ (.lc vs t kd src ifs elt) ρ = ((srcR Φ kd src ρ).bind fun p => if ownAny p.2 vs then .bad else
        (noExc (lcLoop vs t (fun ρ => evTs Φ ifs ρ) (fun ρ => rel (ev Φ elt ρ)) p.1 [] (wipeE p.2 vs))).map fun q => (.own (.lst q.1), backE p.2 q.2 vs)) := by
      show ((evVs Φ src ρ).bind fun p => match srcf kd p.1 with
        | some items => if ownAny p.2 vs then .bad else
            (noExc (lcLoop vs t (fun ρ => evTs Φ ifs ρ) (fun ρ => rel (ev Φ elt ρ)) items [] (wipeE p.2 vs))).map fun q => (Slot.own (.lst q.1), backE p.2 q.2 vs)
        | none => .bad) = _
      unfold srcR
      cases evVs Φ src ρ with
      | exc _ _ _ => rfl
      | bad => rfl
      | ok p =>
        dsimp only [R.bind]
        cases srcf kd p.1 <;> rfl
    rw [← e]; exact a
  refine a2.bind.imp fun items ρ1 O1 H1 R1 _ q J wk D hD => ?_
  dsimp only at q
  split at q
  · exact q.elim
  rename_i hno
  have hno : ownAny ρ1 vs = false := by simpa using hno
  -- the loop comes to an end
  obtain ⟨p, hL⟩ : ∃ p, lcLoop vs t (fun ρ => evTs Φ ifs ρ) (fun ρ => rel (ev Φ elt ρ)) items [] (wipeE ρ1 vs) = .ok p := by
    cases hl : lcLoop vs t (fun ρ => evTs Φ ifs ρ) (fun ρ => rel (ev Φ elt ρ)) items [] (wipeE ρ1 vs) with
    | ok p => exact ⟨p, rfl⟩
    | exc _ _ _ => rw [hl] at q; exact q.elim
    | bad => rw [hl] at q; exact q.elim
  rw [hL] at q
  replace q : ∀ O' H', Rel P O' (backE ρ1 p.2 vs) σ H' → Ext O1 H1 O' H' → ∀ v, RepR P O' (backE ρ1 p.2 vs) σ H' v (.own (.lst p.1)) → Q v H' := q
  obtain ⟨f1, f2, f3⟩ := R1.fresh hD
  have hs := R1.sub
  let Pv : Nat → Hp → Prop := fun i H => ∃ acc accD ρi O', lcLoop vs t (fun ρ => evTs Φ ifs ρ) (fun ρ => rel (ev Φ elt ρ)) (items.drop i) accD ρi = .ok p ∧ Rel (P.hid D (.lst acc)) O' ρi (L2.wipe σ vs) H ∧ Ext O1 H1 O' H ∧ Reps P.G (cut H O') acc accD
  refine ⟨fun i m H => m = items.length - i ∧ i ≤ items.length ∧ Pv i H, ⟨items.length, by simp, Nat.zero_le _, [], [], wipeE ρ1 vs, D :: O1, hL, (R1.wipe vs).hidNew hD trivial, ext_new hD, .nil⟩, ?_⟩
  rintro i m H2 ⟨rfl, hi, acc, accD, ρi, O2, e2, R2, x2, r2⟩
  by_cases hlt : i < items.length
  · refine .inr ⟨wk.go i O2 H2 hlt x2, Pv (i + 1), fun H' p' => ⟨items.length - (i + 1), by omega, rfl, hlt, p'⟩, fun x H3 y => ?_⟩
    obtain ⟨s3, d, hd, rd⟩ := wk.yld i O2 H2 x H3 hlt x2 R2.odom y
    have R3 := R2.same s3
    have x3 : Ext O2 H2 O2 H3 := .same s3
    rw [List.drop_eq_getElem_cons hlt] at e2
    have hd' : items[i] = d := by
      rw [List.getElem?_eq_getElem hlt] at hd; exact Option.some.inj hd
    rw [hd'] at e2
    replace e2 : ((R.ofO (assignT t (.val d) ρi)).bind fun ρ1 => (evTs Φ ifs ρ1).bind fun p =>
      if p.1 then (rel (ev Φ elt p.2)).bind fun q => if accD.length < Line then lcLoop vs t (fun ρ => evTs Φ ifs ρ) (fun ρ => rel (ev Φ elt ρ)) (items.drop (i + 1)) (accD ++ [q.1]) (wipeE q.2 vs) else .bad
      else lcLoop vs t (fun ρ => evTs Φ ifs ρ) (fun ρ => rel (ev Φ elt ρ)) (items.drop (i + 1)) accD (wipeE p.2 vs)) = .ok p := e2
    obtain ⟨ρ3, e3, e2⟩ := bind_okR e2
    have e3 := ofO_ok e3
    obtain ⟨⟨b, ρ4⟩, e4, e2⟩ := bind_okR e2
    refine ⟨P.hid D (.lst acc), rfl, O2, ρi, .val d, ρ3, R3, rd, e3, fun O4 σ4 R4 x4 w4 => ⟨?_, ?_⟩⟩
    · rw [w4 vs hin, wipe_idem]
    have hw : L2.wipe σ4 vs = L2.wipe σ vs := by rw [w4 vs hin, wipe_idem]
    refine ⟨P.hid D (.lst acc), rfl, O4, ρ3, R4, aft_ok e4 fun O5 H5 R5 x5 => ?_⟩
    have x25 := x2.trans (x3.trans (x4.trans x5))
    dsimp only at e2
    cases b with
    | false =>
      rw [if_neg Bool.false_ne_true] at e2
      show Pv (i + 1) H5
      have R6 := R5.wipe vs
      rw [hw] at R6
      exact ⟨acc, accD, _, O5, e2, R6, x25, ((x3.trans x4).trans x5).reps r2⟩
    | true =>
      rw [if_pos rfl] at e2
      show xV P (fun ρ => rel (ev Φ elt ρ)) σ4 H5 fun y H4 => ∃ acc, H4 D = some (HO.lst acc) ∧ acc.length < sizeLine ∧ Pv (i + 1) (upd H4 D (HO.lst (acc ++ [y])))
      obtain ⟨⟨z, ρ6⟩, e6, e2⟩ := bind_okR e2
      refine ⟨P.hid D (.lst acc), rfl, O5, ρ4, R5, aft_ok e6 fun O6 H6 R6 x6 v rv => ?_⟩
      dsimp only at e2
      split at e2
      · rename_i hlen
        obtain ⟨hh, hm⟩ := R6.hidAt f2 hs
        have ra := ((x3.trans x4).trans (x5.trans x6)).reps r2
        have hz : sizeLine = 16777216 := sizeLine_eq
        refine ⟨acc, hh, by rw [hz, ra.length]; exact hlen, ?_⟩
        have R7 := (R6.hidChange (o' := .lst (acc ++ [v])) f2 hs trivial).wipe vs
        rw [hw] at R7
        refine ⟨acc ++ [v], accD ++ [z], _, O6, e2, R7, (x25.trans x6).trans (ext_in hm), ?_⟩
        rw [cut_in hm]
        exact ra.append (.cons rv .nil)
      · cases e2
  · have e : i = items.length := by omega
    subst e
    refine .inl ⟨wk.stop O2 H2 x2, ?_⟩
    rw [List.drop_length] at e2
    cases e2
    obtain ⟨hh, hm⟩ := R2.hidAt f2 hs
    obtain ⟨R3, ap⟩ := R2.hidOut f2 f3 hs
    have R4 := R1.back hno x2 R3
    refine q O2 H2 R4 x2 _ ⟨D, rfl, hm, f2, fun i d e z => ?_, acc, hh, r2⟩
    obtain ⟨a, k1, k2, k3, _⟩ := R4.own i d e
    rw [z] at k1; cases k1
    -- an own name that holds the new list: no
    rcases backE_at e with ⟨h1, h2⟩ | ⟨h1, h2⟩
    · have := getD_some (by simp) h2
      obtain ⟨a', q1, q2, _⟩ := R1.own i d this
      rw [z] at q1; cases q1
      exact f1 q2
    · exact ap i d h2 (by rw [wipe_out h1]; exact z)
end
end DL
namespace DL
open PySem L2
section
variable {X : Cx} {W : WX} {P : Pm} {Γ : Ctx} {Φ : Nat → Fn} {k : Nat}
def tstPlain : Expr → Bool
  | .UnaryOp .Not _ _ => false
  | .BoolOp .. => false
  | .IfExp .. => false
  | .Compare .. => false
  | _ => true
theorem isTrue_plain {e : Expr} (h : tstPlain e = true) (env : PySem.Env) : ∀ whole, isTrue e env whole = (do let v ← whole; standAt e.pos; holding [v] (truthy v)) := by
  intro whole
  cases e <;> first
    | rfl
    | cases h
    | (rename_i o a p; cases o <;> first | rfl | cases h)
theorem set_plain {e : Expr} (h : isDisp e = false) (env : PySem.Env) : ∀ x, foldedSetIterable e env x = pure x := by
  intro x
  cases e <;> first | rfl | cases h
def isBool : Expr → Bool
  | .BoolOp .. => true
  | _ => false
/-- both readings -/
structure Both (X : Cx) (P : Pm) (W : WX) (Φ : Nat → Fn) (tst : Bool) (e : Expr) (c : E) : Prop where
  val : tst = false → Snd X P W Φ e c
  pw : tst = true → isBool e = true → PW X e (tT P W Φ c)
  tst : tst = true → PT X e (tT P W Φ c)
theorem both_of {e : Expr} {c : E} {tst : Bool} (hK : P.G.K = X.K) (ht : tstPlain e = true) (h : PE X e (tE P W Φ c)) (hn : ∀ i, c ≠ .var i) : Both X P W Φ tst e c :=
  ⟨fun _ => ⟨h, fun i z => absurd z (hn i)⟩, fun _ hb => (by
    cases e <;> first
      | (cases hb; done)
      | (cases ht; done)), fun _ => pt_val' hK h (isTrue_plain ht _)⟩
theorem mkB {e : Expr} {c : E} {tst : Bool} (hb : isBool e = false) (h1 : tst = false → Snd X P W Φ e c) (h2 : tst = true → PT X e (tT P W Φ c)) : Both X P W Φ tst e c := ⟨h1, fun _ z => (by rw [hb] at z; cases z), h2⟩
theorem mkW {e : Expr} {c : E} {tst : Bool} (h1 : tst = false → Snd X P W Φ e c) (h2 : tst = true → PW X e (tT P W Φ c)) : Both X P W Φ tst e c := ⟨h1, fun z _ => h2 z, fun z => (h2 z).pt⟩
theorem snd_of {e : Expr} {c : E} (h : PE X e (tE P W Φ c)) (hn : ∀ i, c ≠ .var i) : Snd X P W Φ e c := ⟨h, fun i z => absurd z (hn i)⟩
def Ih (n : Nat) : Prop := ∀ {X : Cx} {W : WX} {P : Pm} {Γ : Ctx} {Φ : Nat → Fn} {k : Nat} (tst : Bool) (e : Expr) (c : E), Ok X W P Γ Φ k → cmpE n Γ tst e = some c → Both X P W Φ tst e c
theorem map_snd {n : Nat} (ih : Ih n) (ok : Ok X W P Γ Φ k) : ∀ {es : List Expr} {cs : List E}, es.all nst = true → mapO (cmpE n Γ false) es = some cs → SndL X P W Φ es cs
  | [], cs, _, h => by cases h; exact .nil
  | e :: es, cs, hn, h => by
    rw [List.all_cons, Bool.and_eq_true] at hn
    unfold mapO at h
    split at h
    · rename_i b bs h1 h2
      cases h
      exact .cons hn.1 ((ih false e b ok h1).val rfl) (map_snd ih ok hn.2 h2)
    · cases h
theorem src_snd {n : Nat} (ih : Ih n) (ok : Ok X W P Γ Φ k) {tg it : Expr} {kd : Sk} {src : List E} (h : srcE (cmpE n Γ false) Γ tg it = some (kd, src)) : PI X tg it (tSrc P W Φ kd src) := by
  have plain : ∀ {it : Expr} {kd : Sk} {src : List E}, (cmpE n Γ false it).map (fun c => (Sk.it, [c])) = some (kd, src) → PI X tg it (tSrc P W Φ kd src) := fun {it kd src} h => by
    obtain ⟨c, h1, h2⟩ := Option.map_eq_some_iff.mp h
    cases h2
    exact pi_it ok.K ((ih false it c ok h1).val rfl).pe
  unfold srcE at h
  split at h
  · rename_i x p a pos
    split at h
    · rename_i hx
      subst hx
      split at h
      · rename_i hc
        rw [Bool.and_eq_true] at hc
        obtain ⟨c, h1, h2⟩ := Option.map_eq_some_iff.mp h
        cases h2
        exact pi_rng1 ok hc.2 hc.1 ((ih false a c ok h1).val rfl)
      · cases h
    · split at h
      · rename_i hx
        subst hx
        split at h
        · rename_i hc
          simp only [Bool.and_eq_true] at hc
          obtain ⟨c, h1, h2⟩ := Option.map_eq_some_iff.mp h
          cases h2
          have ht := hc.2
          cases tg with
          | Tuple _ _ _ => exact pi_enumD ok hc.1.2 hc.1.1 ((ih false a c ok h1).val rfl)
          | _ => cases ht
        · cases h
      · exact plain h
  · rename_i x p a b pos
    split at h
    · rename_i hx
      subst hx
      split at h
      · rename_i hc
        simp only [Bool.and_eq_true] at hc
        split at h
        · rename_i c d h1 h2
          cases h
          exact pi_rng2 ok hc.2 hc.1.1 hc.1.2 ((ih false a c ok h1).val rfl) ((ih false b d ok h2).val rfl)
        · cases h
      · cases h
    · split at h
      · rename_i hx
        subst hx
        split at h
        · rename_i hc
          simp only [Bool.and_eq_true] at hc
          split at h
          · rename_i c d h1 h2
            cases h
            have ht := hc.2
            cases tg with
            | Tuple _ _ _ => exact pi_zipD ok hc.1.2 hc.1.1.1 hc.1.1.2 ((ih false a c ok h1).val rfl) ((ih false b d ok h2).val rfl)
            | _ => cases ht
          · cases h
        · cases h
      · exact plain h
  · exact plain h
theorem nm_of (ok : Ok X W P Γ Φ k) {x : Str} {p : Pos} {i : Nat} (h1 : (x == ("__debug__" : Str)) = false) (h2 : (x == ("__classdict__" : Str)) = false) (hv : Γ.vis x = true) (hi : ixOf Γ.N x = some i) : PE X (.Name x p) (tVar i) :=
  pe_var (by rw [ok.N]; exact ixOf_at hi) (ok.vis hv) h1 h2
theorem ifs_snd {n : Nat} (ih : Ih n) (ok : Ok X W P Γ Φ k) {es : List Expr} {cs : List E} (hl : es.length ≤ 1) (h : mapO (cmpE n Γ true) es = some cs) : PTs X es (tB P W fun ρ => evTs Φ cs ρ) := by
  match es, hl, h with
  | [], _, h =>
    cases h
    exact ⟨fun pins s σ H Q I ⟨O, ρ, Z, a⟩ => pts_nil.run pins s σ H Q I (Aft.now a Z)⟩
  | [e], _, h =>
    unfold mapO at h
    split at h
    · rename_i b bs h1 h2
      cases h2
      cases h
      refine pts_one (((ih true e b ok h1).tst rfl).weak fun σ H Q ⟨O, ρ, Z, a⟩ => ⟨O, ρ, Z, ?_⟩)
      have e1 : evTs Φ [b] ρ = tru (rel (ev Φ b ρ)) := by
        show ((tru (rel (ev Φ b ρ))).bind fun p => if p.1 then .ok (true, p.2) else .ok (false, p.2)) = _
        cases tru (rel (ev Φ b ρ)) with
        | ok p => obtain ⟨b, r⟩ := p; cases b <;> rfl
        | exc _ _ _ => rfl
        | bad => rfl
      dsimp only at a
      rw [e1] at a
      exact a
    · cases h
theorem pe_lcD {n : Nat} (ih : Ih n) (ok : Ok X W P Γ Φ k) {elt tg it : Expr} {ifs : List Expr} {scope : Scope} {pos : Pos} {t : T} {kd : Sk} {src ifs' : List E} {elt' : E} (hb : blkC Γ.N Γ.sc scope (ownOf Γ.N scope) = true) (hl : ifs.length ≤ 1) (hd : isDisp it = false)
    (h1 : tgtE n (Γ.blk scope) tg = some t) (h2 : srcE (cmpE n Γ false) Γ tg it = some (kd, src)) (h3 : mapO (cmpE n (Γ.blk scope) true) ifs = some ifs') (h4 : cmpE n (Γ.blk scope) false elt = some elt') (hin : t.inn ((ownOf Γ.N scope).map (·.2)) = true) :
    PE X (.ListComp elt [⟨tg, it, ifs, 0⟩] scope pos) (tE P W Φ (.lc ((ownOf Γ.N scope).map (·.2)) t kd src ifs' elt')) := by
  have hN : X.N.Nodup := by rw [ok.N]; exact ok.nd
  have bk : BlkOk X.N X.env.scope scope (ownOf Γ.N scope) := by rw [ok.N, ok.sc]; exact blkOk_by hb
  refine (pe_lc ok.calm hN (src_snd ih ok h2) bk (g := xG P t) (tt := xB P fun ρ => evTs Φ ifs' ρ) (te := xV P fun ρ => rel (ev Φ elt' ρ))
    (fun s H C cl fp => ⟨fun pins s' σ H v u Q I r ⟨P', hP, z⟩ => (tgt_snd ((ok.blk scope s _ C cl fp).pm hP) n tg t h1).run pins s' σ H v u Q I r z⟩)
    (fun s H C cl fp => ⟨fun pins s' σ H Q I ⟨P', hP, z⟩ => (ifs_snd ih ((ok.blk scope s _ C cl fp).pm hP) hl h3).run pins s' σ H Q I z⟩)
    (fun s H C cl fp => ⟨fun pins s' σ H Q I ⟨P', hP, z⟩ => ((ih false elt elt' ((ok.blk scope s _ C cl fp).pm hP) h4).val rfl).v.run pins s' σ H Q I z⟩)
    (set_plain hd _)).weak fun σ H Q h => lc_rd hin h
end
end DL
namespace DL
open PySem L2
section
variable {X : Cx} {W : WX} {P : Pm} {Γ : Ctx} {Φ : Nat → Fn} {k : Nat}
theorem optE_none {f : Expr → Option E} {o : Option (Option E)} (h : optE f none = some c) : c = none := by cases h; rfl
theorem opt_snd {n : Nat} (ih : Ih n) (ok : Ok X W P Γ Φ k) {lo : Option Expr} {c : Option E} (h : optE (cmpE n Γ false) lo = some c) : (∀ e c', lo = some e → c = some c' → Snd X P W Φ e c') ∧ lo.isSome = c.isSome := by
  cases lo with
  | none => cases h; exact ⟨fun _ _ z => (by cases z), rfl⟩
  | some e =>
    obtain ⟨c', h1, rfl⟩ := Option.map_eq_some_iff.mp h
    refine ⟨fun e' c2 z1 z2 => ?_, rfl⟩
    cases z1; cases z2
    exact (ih false _ _ ok h1).val rfl
theorem name_snd {x : Str} {p : Pos} {c' : E} (ok : Ok X W P Γ Φ k) (h1 : nameE Γ x = some c') : (∃ i, c' = .var i ∧ PE X (.Name x p) (tVar i)) ∨ (∃ d, c' = .lit d ∧ PE X (.Name x p) (tE P W Φ (.lit d))) := by
  unfold nameE at h1
  split at h1
  · cases h1
  rename_i hd
  simp only [Bool.or_eq_true, not_or, Bool.not_eq_true] at hd
  split at h1
  · rename_i hv
    obtain ⟨i, hi, rfl⟩ := Option.map_eq_some_iff.mp h1
    exact .inl ⟨i, rfl, nm_of (p := p) ok hd.1 hd.2 hv hi⟩
  · split at h1
    · rename_i hg
      obtain ⟨d, hi, rfl⟩ := Option.map_eq_some_iff.mp h1
      obtain ⟨u, v, q1, q2, q3⟩ := ok.cs x d hi
      obtain ⟨g1, g2, g3⟩ := ok.glob hg
      exact .inr ⟨d, rfl, pe_lit (pe_glob g1 q1 q2 g2) q3⟩
    · cases h1
theorem bool_snd {op : BoolOp} {a : Expr} {p : Pos} {c : E} {tst : Bool} (hn : Both X P W Φ tst a c) : Both X P W Φ tst (.BoolOp op [a] p) c := by
  refine mkW (fun z => ⟨pe_one (hn.val z).pe, fun i e => pe_one ((hn.val z).nm i e)⟩) fun z => ?_
  cases op with
  | And => exact pw_and1 (hn.tst z)
  | Or => exact pw_or1 (hn.tst z)
theorem cmp_snd : ∀ n, Ih n
  | 0 => fun _ _ _ _ h => by cases h
  | n + 1 => fun tst e c ok h => by
    have ih : Ih n := cmp_snd n
    have hK := ok.K
    have hu := ok.un
    unfold cmpE at h
    split at h
    · rename_i cc i p
      cases cc <;> first
        | cases h
        | skip
      · exact both_of hK rfl (pe_lit pe_non fun _ => .non) (fun _ z => by cases z)
      · exact both_of hK rfl (pe_lit pe_bl fun _ => .bl _) (fun _ z => by cases z)
      · exact both_of hK rfl (pe_lit pe_int fun _ => .int _) (fun _ z => by cases z)
      · exact both_of hK rfl (pe_lit pe_str fun _ => .str _) (fun _ z => by cases z)
    · rename_i x p
      obtain ⟨c', h1, rfl⟩ := Option.map_eq_some_iff.mp h
      rcases name_snd (p := p) ok h1 with ⟨i, rfl, q⟩ | ⟨d, rfl, q⟩
      · cases tst with
        | false => exact mkB rfl (fun _ => ⟨name_e q, fun j z => by cases z; exact q⟩) fun z => by cases z
        | true => exact mkB rfl (fun z => (by cases z)) fun _ => pt_name hK q
      · have e : (if tst = true then tstE (.lit d) else .lit d) = .lit d := by cases tst <;> rfl
        rw [e]
        exact both_of hK rfl q (fun _ z => by cases z)
    · rename_i a o b p
      split at h
      · rename_i a' b' h1 h2
        cases h
        exact both_of hK rfl (pe_bin hK ((ih false a a' ok h1).val rfl) ((ih false b b' ok h2).val rfl)) (fun _ z => by cases z)
      · cases h
    · rename_i a p
      obtain ⟨c', h1, rfl⟩ := Option.map_eq_some_iff.mp h
      exact both_of hK rfl (pe_neg ((ih false a c' ok h1).val rfl)) (fun _ z => by cases z)
    · rename_i x q p
      obtain ⟨c', h1, rfl⟩ := Option.map_eq_some_iff.mp h
      have b := ih true _ _ ok h1
      refine mkB rfl (fun _ => snd_of ?_ (fun _ z => by cases z)) fun _ => pt_not' (b.tst rfl)
      cases n with
      | zero => cases h1
      | succ n =>
        replace h1 : (nameE _ x).map (fun c => if true then tstE c else c) = some c' := h1
        obtain ⟨c2, h2, rfl⟩ := Option.map_eq_some_iff.mp h1
        rcases name_snd (p := q) ok h2 with ⟨i, rfl, r⟩ | ⟨d, rfl, r⟩
        · exact pe_notN hK r
        · exact pe_notD hK r
    · rename_i a p _
      obtain ⟨c', h1, rfl⟩ := Option.map_eq_some_iff.mp h
      have b := ih tst _ _ ok h1
      exact mkB rfl (fun z => snd_of (pe_notD hK (b.val z).pe) (fun _ z => by cases z)) fun z => pt_not' (b.tst z)
    · exact bool_snd (ih tst _ _ ok h)
    · exact bool_snd (ih tst _ _ ok h)
    · rename_i a b r p
      split at h
      · rename_i a' b' h1 h2
        cases h
        have qa := ih tst _ _ ok h1
        have qb := ih tst _ _ ok h2
        exact mkW (fun z => snd_of (pe_andD hK (qa.val z) (qb.val z).pe) (fun _ z => by cases z)) fun z => pw_andD (qa.tst z) (qb.pw z rfl)
      · cases h
    · rename_i a b r p
      split at h
      · rename_i a' b' h1 h2
        cases h
        have qa := ih tst _ _ ok h1
        have qb := ih tst _ _ ok h2
        exact mkW (fun z => snd_of (pe_orD hK (qa.val z) (qb.val z).pe) (fun _ z => by cases z)) fun z => pw_orD (qa.tst z) (qb.pw z rfl)
      · cases h
    · rename_i t a b p
      split at h
      · cases h
      rename_i ht
      split at h
      · rename_i t' a' b' h1 h2 h3
        cases h
        exact mkB rfl (fun z => snd_of (pe_ifD ((ih true t t' ok h1).tst rfl) ((ih false a a' ok h2).val rfl) ((ih false b b' ok h3).val rfl)) (fun _ z => by cases z)) fun z => absurd z ht
      · cases h
    · rename_i a o b p
      split at h
      · cases h
      rename_i hd
      have hd : isDisp b = false := by simpa using hd
      split at h
      · rename_i kvs hdk
        split at h
        · rename_i op a' h1 h2
          cases h
          obtain ⟨q1, q2⟩ := pe_inK (pos := p) ok hdk h1 hd ((ih false _ _ ok h2).val rfl)
          exact mkB rfl (fun z => snd_of q1 (fun _ z => by cases z)) fun z => q2
        · cases h
      · split at h
        rotate_left
        · cases h
        rename_i a' b' h1 h2
        cases h
        have qa := (ih false _ _ ok h1).val rfl
        have qb := (ih false _ _ ok h2).val rfl
        exact mkB rfl (fun z => snd_of (pe_cmpD hK hu hd qa qb) (fun _ z => by cases z)) fun z => pt_cmpD hK hu hd qa qb
    · rename_i a o o2 b c p
      split at h
      · rename_i hp
        rw [Bool.and_eq_true] at hp
        split at h
        · rename_i a' b' c' h1 h2 h3
          cases h
          have qa := (ih false _ _ ok h1).val rfl
          have qb := (ih false _ _ ok h2).val rfl
          have qc := (ih false _ _ ok h3).val rfl
          exact mkB rfl (fun z => snd_of (pe_chainD hK hu hp.2 qa qb qc) (fun _ z => by cases z)) fun z => pt_chainD hK hu hp.2 qa qb qc
        · cases h
      · cases h
    · rename_i es kk p
      split at h
      · rename_i hn
        obtain ⟨cs, h1, rfl⟩ := Option.map_eq_some_iff.mp h
        exact both_of hK rfl (pe_tupD (map_snd ih ok hn h1).vs) (fun _ z => by cases z)
      · cases h
    · rename_i es p
      split at h
      · rename_i hn
        obtain ⟨cs, h1, rfl⟩ := Option.map_eq_some_iff.mp h
        exact both_of hK rfl (pe_lstD (map_snd ih ok hn h1).vs) (fun _ z => by cases z)
      · cases h
    · rename_i a lo hi p2 p
      split at h
      · rename_i a' lo' hi' h1 h2 h3
        cases h
        obtain ⟨q1, q2⟩ := opt_snd ih ok h2
        obtain ⟨q3, q4⟩ := opt_snd ih ok h3
        exact both_of hK rfl (pe_slD hK ((ih false _ _ ok h1).val rfl) q1 q3 q2 q4) (fun _ z => by cases z)
      · cases h
    · cases h
    · rename_i a i p hs1 hs2
      have hs : isSlice i = false := by
        cases i <;> first
          | rfl
          | exact absurd rfl (hs2 _ _ _ _)
      split at h
      · rename_i kvs hdk
        obtain ⟨c', h1, rfl⟩ := Option.map_eq_some_iff.mp h
        exact both_of hK rfl (pe_ixK ok hdk hs ((ih false _ _ ok h1).val rfl)) (fun _ z => by cases z)
      · split at h
        rotate_left
        · cases h
        rename_i a' i' h1 h2
        cases h
        exact both_of hK rfl (pe_ixD hK hs ((ih false _ _ ok h1).val rfl) ((ih false _ _ ok h2).val rfl)) (fun _ z => by cases z)
    · rename_i f p args pos
      split at h
      · cases h
      rename_i hn
      have hn : args.all nst = true := by simpa using hn
      split at h
      · rename_i i g hf
        split at h
        · rename_i hc
          rw [Bool.and_eq_true] at hc
          obtain ⟨cs, h1, rfl⟩ := Option.map_eq_some_iff.mp h
          exact both_of hK rfl (pe_callD ok hf hc.1 (by simpa using hc.2) (map_snd ih ok hn h1)) (fun _ z => by cases z)
        · cases h
      · split at h
        · cases h
        rename_i hb
        simp only [Bool.not_eq_true, Bool.not_eq_false'] at hb
        split at h
        · rename_i hx
          subst hx
          split at h
          · rename_i a ty p2 _
            split at h
            · rename_i hty
              split at h
              · rename_i t a' h1 h2
                cases h
                have hn1 : nst a = true := by
                  simp only [List.all_cons, Bool.and_eq_true] at hn; exact hn.1
                exact both_of hK rfl (pe_isi ok hb hty h1 hn1 ((ih false _ _ ok h2).val rfl)) (fun _ z => by cases z)
              · cases h
            · cases h
          · cases h
        · split at h
          · rename_i a _
            have hn1 : nst a = true := by
              simp only [List.all_cons, Bool.and_eq_true] at hn; exact hn.1
            split at h
            · rename_i o a' h1 h2
              cases h
              exact both_of hK rfl (pe_bi1 ok hb h1 hn1 ((ih false _ _ ok h2).val rfl)) (fun _ z => by cases z)
            · cases h
          · rename_i a b
            simp only [List.all_cons, Bool.and_eq_true] at hn
            split at h
            · rename_i o a' b' h1 h2 h3
              cases h
              exact both_of hK rfl (pe_bi2 ok hb h1 hn.1 hn.2.1 ((ih false _ _ ok h2).val rfl) ((ih false _ _ ok h3).val rfl)) (fun _ z => by cases z)
            · cases h
          · cases h
    · rename_i x p0 m apos a cpos
      split at h
      · cases h
      rename_i hc
      rw [Bool.not_eq_true, Bool.not_eq_false'] at hc
      simp only [Bool.and_eq_true, Bool.not_eq_true'] at hc
      split at h
      · rename_i i a' h1 h2
        have q := nm_of (p := p0) ok hc.1.2 hc.2 hc.1.1.1.2 h1
        split at h
        · rename_i hm
          subst hm
          cases h
          exact both_of hK rfl (pe_append q hc.1.1.2 hc.1.1.1.1 ((ih false _ _ ok h2).val rfl)) (fun _ z => by cases z)
        · split at h
          · rename_i hm
            subst hm
            cases h
            exact both_of hK rfl (pe_extend q hc.1.1.2 hc.1.1.1.1 ((ih false _ _ ok h2).val rfl)) (fun _ z => by cases z)
          · cases h
      · cases h
    · rename_i x p0 m apos cpos
      split at h
      · cases h
      rename_i hc
      rw [Bool.not_eq_true, Bool.not_eq_false'] at hc
      simp only [Bool.and_eq_true, Bool.not_eq_true'] at hc
      split at h
      · rename_i i h1
        have q := nm_of (p := p0) ok hc.1.2 hc.2 hc.1.1.1 h1
        split at h
        · rename_i hm
          subst hm
          cases h
          exact both_of hK rfl (pe_pop q hc.1.1.2) (fun _ z => by cases z)
        · cases h
      · cases h
    · rename_i elt tg it ifs scope p
      split at h
      · cases h
      rename_i hc
      simp only [Bool.or_eq_true, not_or, Bool.not_eq_true, Bool.not_eq_false', decide_eq_true_eq, Nat.not_lt] at hc
      split at h
      · rename_i t kd src ifs' elt' h1 h2 h3 h4
        split at h
        · rename_i hin
          cases h
          exact both_of hK rfl (pe_lcD ih ok hc.1.1 hc.1.2 hc.2 h1 h2 h3 h4 hin) (fun _ z => by cases z)
        · cases h
      · cases h
    · cases h
end
end DL
namespace DL
open PySem L2
/-! ## statements -/
def AftS (P : Pm) (W : WX) (O : List Addr) (H : Hp) (r : R Sts Out) (D : Ends) : Prop := match r with
  | .ok (.nx ρ') => ∀ O' σ' H', Rel P O' ρ' σ' H' → Ext O H O' H' → D.nx σ' H'
  | .ok (.bk ρ') => ∀ O' σ' H', Rel P O' ρ' σ' H' → Ext O H O' H' → D.bk σ' H'
  | .ok (.ct ρ') => ∀ O' σ' H', Rel P O' ρ' σ' H' → Ext O H O' H' → D.ct σ' H'
  | .ok (.rt s ρ') => ∀ O' σ' H' v, Rel P O' ρ' σ' H' → Ext O H O' H' → RepR P O' ρ' σ' H' v s → D.rt v H'
  | .exc c x ρ' => ∀ O' σ' H' cv d, Rel P O' ρ' σ' H' → Ext O H O' H' → ExcAt P.G O' H' c x cv d → W cv d σ' H'
  | .bad => False
def tS (P : Pm) (W : WX) (r : Sts → R Sts Out) : TS := fun D σ H => ∃ O ρ, Rel P O ρ σ H ∧ AftS P W O H (r ρ) D
section
variable {X : Cx} {W : WX} {P : Pm} {Γ : Ctx} {Φ : Nat → Fn} {k : Nat} {O O1 : List Addr} {H H1 : Hp} {σ : St} {D D' : Ends} {ρ : Sts}
theorem AftS.mono {r : R Sts Out} (h : AftS P W O H r D) (e : Ext O H O1 H1) : AftS P W O1 H1 r D := by
  cases r with
  | ok p => cases p with
    | nx ρ' => exact fun O' σ' H' R x => h O' σ' H' R (e.trans x)
    | bk ρ' => exact fun O' σ' H' R x => h O' σ' H' R (e.trans x)
    | ct ρ' => exact fun O' σ' H' R x => h O' σ' H' R (e.trans x)
    | rt s ρ' => exact fun O' σ' H' v R x => h O' σ' H' v R (e.trans x)
  | exc c x ρ' => exact fun O' σ' H' cv d R z => h O' σ' H' cv d R (e.trans z)
  | bad => exact h
/-- behind an expression -/
theorem AftS.bind {α : Type} {r : R Sts (α × Sts)} {f : α × Sts → R Sts Out} (h : AftS P W O H (r.bind f) D) : Aft P W σ O H r fun a ρ1 O1 H1 => AftS P W O1 H1 (f (a, ρ1)) D := by
  cases r with
  | ok p => exact fun O' H' R x => AftS.mono h x
  | exc c x ρ' => exact fun O' H' cv d R z q => h O' σ H' cv d R z q
  | bad => exact h
theorem AftS.then {r : R Sts Out} {f : Sts → R Sts Out} (h : AftS P W O H (thenR r f) D) : AftS P W O H r { D with nx := tS P W f D } := by
  cases r with
  | ok p => cases p with
    | nx ρ' => exact fun O' σ' H' R x => ⟨O', ρ', R, AftS.mono h x⟩
    | bk ρ' => exact h
    | ct ρ' => exact h
    | rt s ρ' => exact h
  | exc c x ρ' => exact h
  | bad => exact h
theorem AftS.nxt {ρ' : Sts} (h : AftS P W O H (.ok (.nx ρ')) D) (R : Rel P O ρ' σ H) : D.nx σ H := h O σ H R .refl
theorem AftS.of {α : Type} {o : Option α} {f : α → Out} (h : AftS P W O H ((R.ofO o).map f) D) : ∃ a, o = some a ∧ AftS P W O H (.ok (f a)) D := by
  cases o with
  | none => exact h.elim
  | some a => exact ⟨a, rfl, h⟩
theorem ps_passD {pos : Pos} : PS X (.Pass pos) (tS P W (evS Φ .pass)) := ps_pass.weak fun D σ H ⟨O, ρ, Z, a⟩ => AftS.nxt a Z
theorem ps_docD {x : Str} {j : Nat} {pos pos' : Pos} : PS X (.Expr (.Constant (.str x) j pos) pos') (tS P W (evS Φ .pass)) := ps_doc.weak fun D σ H ⟨O, ρ, Z, a⟩ => AftS.nxt a Z
theorem ps_brkD {pos : Pos} : PS X (.Break pos) (tS P W (evS Φ .brk)) := ps_break.weak fun D σ H ⟨O, ρ, Z, a⟩ => a O σ H Z .refl
theorem ps_cntD {pos : Pos} : PS X (.Continue pos) (tS P W (evS Φ .cnt)) := ps_continue.weak fun D σ H ⟨O, ρ, Z, a⟩ => a O σ H Z .refl
theorem ps_retnD {pos : Pos} : PS X (.Return none pos) (tS P W (evS Φ .retn)) := ps_retN.weak fun D σ H ⟨O, ρ, Z, a⟩ => a O σ H .non Z .refl .non
theorem swaps_plain {e : Expr} {t : Option Expr} {l : Nat} {env : PySem.Env} (h : notComp e = true) : swapsWith e t l env = pure false := by
  cases e <;> first | rfl | cases h
theorem ps_expD {e : Expr} {c : E} {pos : Pos} (hn : notComp e = true) (h : PE X e (tE P W Φ c)) : PS X (.Expr e pos) (tS P W (evS Φ (.exp c))) :=
  (ps_expr h (swaps_plain hn)).weak fun D σ H ⟨O, ρ, Z, a⟩ => ⟨O, ρ, Z, by
    have a2 : AftS P W O H ((ev Φ c ρ).bind fun p => .ok (.nx p.2)) D := by
      have e : evS Φ (.exp c) ρ = (ev Φ c ρ).bind fun p => .ok (.nx p.2) := by
        show (ev Φ c ρ).map (fun p => Out.nx p.2) = _
        cases ev Φ c ρ <;> rfl
      rw [← e]; exact a
    exact a2.bind.imp fun s ρ1 O1 H1 R1 _ q v rv => AftS.nxt q R1⟩
theorem ps_retD {e : Expr} {c : E} {pos : Pos} (h : PE X e (tE P W Φ c)) : PS X (.Return (some e) pos) (tS P W (evS Φ (.ret c))) :=
  (ps_ret h).weak fun D σ H ⟨O, ρ, Z, a⟩ => ⟨O, ρ, Z, by
    have a2 : AftS P W O H ((ev Φ c ρ).bind fun p => .ok (.rt p.1 p.2)) D := by
      have e : evS Φ (.ret c) ρ = (ev Φ c ρ).bind fun p => .ok (.rt p.1 p.2) := by
        show (ev Φ c ρ).map (fun p => Out.rt p.1 p.2) = _
        cases ev Φ c ρ <;> rfl
      rw [← e]; exact a
    exact a2.bind.imp fun s ρ1 O1 H1 R1 _ q v rv => q O1 σ H1 v R1 .refl rv⟩
theorem Rel.take (R : Rel P O ρ σ H) {i : Nat} {d : DL.D} (hi : ρ[i]? = some (.own d)) : ∃ a, σ[i]? = some (some (.ref a)) ∧ Rel P O (ρ.set i .emp) σ H ∧ RepR P O (ρ.set i .emp) σ H (.ref a) (.own d) := by
  obtain ⟨a, h1, h2, h3, h4⟩ := R.own i d hi
  have hl : i < ρ.length := (List.getElem?_eq_some_iff.mp hi).1
  have ne : ∀ {j : Nat} {s : Slot}, s ≠ .emp → (ρ.set i .emp)[j]? = some s → i ≠ j ∧ ρ[j]? = some s := fun {j s} hs q => by
    by_cases hj : i = j
    · subst hj; rw [List.getElem?_set_self hl] at q; cases q; exact absurd rfl hs
    · rw [List.getElem?_set_ne hj] at q; exact ⟨hj, q⟩
  refine ⟨a, h1, ⟨by simpa using R.len, fun j e q => R.val j e (ne (by simp) q).2, fun j e q => R.own j e (ne (by simp) q).2, fun j e q => R.io j e (ne (by simp) q).2, fun j l b s t q1 q2 => R.dis j l b s t (ne (by simp) q1).2 (ne (by simp) q2).2, R.iod, R.fr, R.ofr, R.odom, R.exs, R.sub⟩, a, rfl, h2, h3, fun j e q z => ?_, h4⟩
  obtain ⟨z1, z2⟩ := ne (by simp) q
  exact z1 (R.dis i j a d e hi z2 h1 z)
theorem ps_retoD {e : Expr} {i : Nat} {pos : Pos} (h : PE X e (tVar i)) : PS X (.Return (some e) pos) (tS P W (evS Φ (.reto i))) :=
  (ps_ret h).weak fun D σ H ⟨O, ρ, Z, a⟩ => by
    replace a : AftS P W O H (match ρ[i]? with
      | some (.own d) => .ok (.rt (.own d) (ρ.set i .emp))
      | some (.val d) => .ok (.rt (.val d) ρ)
      | _ => .bad) D := a
    show ∃ v, σ[i]? = some (some v) ∧ D.rt v H
    split at a
    · rename_i d e1
      obtain ⟨b, h1, h2, h3⟩ := Z.take e1
      exact ⟨_, h1, a O σ H _ h2 .refl h3⟩
    · rename_i d e1
      obtain ⟨v, h1, h2⟩ := Z.val i d e1
      exact ⟨v, h1, a O σ H _ Z .refl h2⟩
    · exact a.elim
theorem ps_iteD {t : Expr} {ct : E} {a b : List Stmt} {ca cb : List S} {pos : Pos} (ht : PT X t (tT P W Φ ct)) (ha : PSs X a (tS P W (evSs Φ ca))) (hb : PSs X b (tS P W (evSs Φ cb))) : PS X (.If t a b pos) (tS P W (evS Φ (.ite ct ca cb))) :=
  (ps_if ht ha hb).weak fun D σ H ⟨O, ρ, Z, a⟩ => ⟨O, ρ, Z, by
    have a2 : AftS P W O H ((tru (rel (ev Φ ct ρ))).bind fun p => if p.1 then evSs Φ ca p.2 else evSs Φ cb p.2) D := a
    refine a2.bind.imp fun b ρ1 O1 H1 R1 _ q => ?_
    cases b with
    | true => exact ⟨O1, ρ1, R1, q⟩
    | false => exact ⟨O1, ρ1, R1, q⟩⟩
theorem pss_nilD : PSs X [] (tS P W (evSs Φ [])) := pss_nil.weak fun D σ H ⟨O, ρ, Z, a⟩ => AftS.nxt a Z
theorem pss_consD {st : Stmt} {rest : List Stmt} {c : S} {cs : List S} (h : PS X st (tS P W (evS Φ c))) (hr : PSs X rest (tS P W (evSs Φ cs))) : PSs X (st :: rest) (tS P W (evSs Φ (c :: cs))) :=
  (pss_cons h hr).weak fun D σ H ⟨O, ρ, Z, a⟩ => ⟨O, ρ, Z, AftS.then a⟩
/-- e, then a store -/
theorem asg_rd {e : E} {t : T} (h : tS P W (evS Φ (.asg t e)) D σ H) : tE P W Φ e σ H fun v H1 => tGt P t v σ H1 D.nx := by
  obtain ⟨O, ρ, Z, a⟩ := h
  refine ⟨O, ρ, Z, ?_⟩
  have a2 : AftS P W O H ((ev Φ e ρ).bind fun p => (R.ofO (assignT t p.1 p.2)).map .nx) D := a
  refine a2.bind.imp fun s ρ1 O1 H1 R1 _ q v rv => ?_
  obtain ⟨ρ2, h1, q⟩ := AftS.of q
  exact ⟨O1, ρ1, s, ρ2, R1, rv, h1, fun O2 σ2 R2 x2 _ => q O2 σ2 H1 R2 x2⟩
def isTup : Expr → Bool
  | .Tuple .. => true
  | _ => false
def isName : Expr → Bool
  | .Name .. => true
  | _ => false
/-- no stores in another order -/
def plainSt (tg e : Expr) : Bool := match tg with
  | .Name .. => true
  | .Tuple .. => !isTup e
  | .Subscript .. => true
  | _ => false
theorem stores_plain {tg e : Expr} {env : PySem.Env} (h : plainSt tg e = true) : swappedStores [tg] e env = pure none := by
  cases tg <;> first
    | rfl
    | cases h
    | (cases e <;> first | rfl | cases h)
theorem each_one {tg e : Expr} {env : PySem.Env} (h : plainSt tg e = true) : (assignEach [tg] env).map (·.2) = [assign tg env] := by
  cases tg <;> first | rfl | cases h
theorem ps_asgD {tg e : Expr} {t : T} {c : E} {pos : Pos} (hs : swapsWith e (some tg) pos.line X.env = pure false) (hp : plainSt tg e = true) (ht : PG X tg (tGt P t)) (he : PE X e (tE P W Φ c)) : PS X (.Assign [tg] e pos) (tS P W (evS Φ (.asg t c))) :=
  (ps_asg he ht hs (stores_plain hp) (each_one hp)).weak fun D σ H h => asg_rd h
/-- name = [..] on one line -/
theorem gName_of {i : Nat} {v : V} {o : Bool} {Q : St → Hp → Prop} (h : tGt P (.name i o) v σ H Q) : gName i v σ H Q := by
  obtain ⟨O, ρ, s, ρ', Z, hs, hA, q⟩ := h
  obtain ⟨O', Z', x⟩ := setT Z hs hA
  exact q O' _ Z' x fun vs hv => wipe_set (by simpa [T.inn] using hv)
end
end DL
namespace DL
open PySem L2
section
variable {X : Cx} {W : WX} {P : Pm} {Γ : Ctx} {Φ : Nat → Fn} {k : Nat} {O O1 : List Addr} {H H1 : Hp} {σ : St} {D D' : Ends} {ρ : Sts}
/-! ### while, for -/
theorem whl_rd {t : E} {b : List S} (h : tS P W (evS Φ (.whl t b)) D σ H) : tWhile (tT P W Φ t) (tS P W (evSs Φ b)) D σ H := by
  obtain ⟨O, ρ, Z, a⟩ := h
  replace a : AftS P W O H (whlR (fun ρ => tru (rel (ev Φ t ρ))) (fun ρ => evSs Φ b ρ) fuel ρ) D := a
  refine ⟨fun m σ' H' => ∃ O' ρ', Rel P O' ρ' σ' H' ∧ AftS P W O' H' (whlR (fun ρ => tru (rel (ev Φ t ρ))) (fun ρ => evSs Φ b ρ) m ρ') D, ⟨fuel, O, ρ, Z, a⟩, ?_⟩
  rintro m σ1 H1 ⟨O1, ρ1, Z1, a1⟩
  cases m with
  | zero => exact a1.elim
  | succ m =>
    refine ⟨O1, ρ1, Z1, ?_⟩
    have a2 : AftS P W O1 H1 ((tru (rel (ev Φ t ρ1))).bind fun p => if p.1 then (match evSs Φ b p.2 with
      | .ok (.nx ρ1) => whlR (fun ρ => tru (rel (ev Φ t ρ))) (fun ρ => evSs Φ b ρ) m ρ1
      | .ok (.ct ρ1) => whlR (fun ρ => tru (rel (ev Φ t ρ))) (fun ρ => evSs Φ b ρ) m ρ1
      | .ok (.bk ρ1) => .ok (.nx ρ1)
      | .ok (.rt s ρ1) => .ok (.rt s ρ1)
      | .exc c x e => .exc c x e
      | .bad => .bad) else .ok (.nx p.2)) D := a1
    refine a2.bind.imp fun c ρ2 O2 H2 R2 _ q => ?_
    cases c with
    | false => exact AftS.nxt q R2
    | true =>
      show ∃ N : St → Hp → Prop, _ ∧ _
      refine ⟨fun σ' H' => ∃ O' ρ', Rel P O' ρ' σ' H' ∧ AftS P W O' H' (whlR (fun ρ => tru (rel (ev Φ t ρ))) (fun ρ => evSs Φ b ρ) m ρ') D, fun σ' H' n => ⟨m, Nat.lt_succ_self m, n⟩, O2, ρ2, R2, ?_⟩
      replace q : AftS P W O2 H2 (match evSs Φ b ρ2 with
        | .ok (.nx ρ1) => whlR (fun ρ => tru (rel (ev Φ t ρ))) (fun ρ => evSs Φ b ρ) m ρ1
        | .ok (.ct ρ1) => whlR (fun ρ => tru (rel (ev Φ t ρ))) (fun ρ => evSs Φ b ρ) m ρ1
        | .ok (.bk ρ1) => .ok (.nx ρ1)
        | .ok (.rt s ρ1) => .ok (.rt s ρ1)
        | .exc c x e => .exc c x e
        | .bad => .bad) D := q
      revert q
      cases evSs Φ b ρ2 with
      | bad => exact fun q => q
      | exc c x e => exact fun q => q
      | ok o => cases o with
        | nx ρ3 => exact fun q O3 σ3 H3 R3 x3 => ⟨O3, ρ3, R3, AftS.mono q x3⟩
        | ct ρ3 => exact fun q O3 σ3 H3 R3 x3 => ⟨O3, ρ3, R3, AftS.mono q x3⟩
        | bk ρ3 => exact fun q => q
        | rt s ρ3 => exact fun q => q
theorem ps_whlD {t : Expr} {ct : E} {b : List Stmt} {cb : List S} {pos : Pos} (ok : Ok X W P Γ Φ k) (ht : PT X t (tT P W Φ ct)) (hb : PSs X b (tS P W (evSs Φ cb))) : PS X (.While t b [] pos) (tS P W (evS Φ (.whl ct cb))) :=
  (ps_while ok.po ht hb).weak fun D σ H h => whl_rd h
theorem for_rd {t : T} {kd : Sk} {src : List E} {b : List S} (h : tS P W (evS Φ (.for t kd src b)) D σ H) : tFor (tSrc P W Φ kd src) (tGt P t) (tS P W (evSs Φ b)) D σ H := by
  obtain ⟨O, ρ, Z, a⟩ := h
  refine ⟨O, ρ, Z, ?_⟩
  have a2 : AftS P W O H ((srcR Φ kd src ρ).bind fun p => forR (fun x ρ => (R.ofO (assignT t (.val x) ρ)).bind fun ρ1 => evSs Φ b ρ1) p.1 p.2) D := by
    have e : evS Φ (.for t kd src b) ρ = (srcR Φ kd src ρ).bind fun p => forR (fun x ρ => (R.ofO (assignT t (.val x) ρ)).bind fun ρ1 => evSs Φ b ρ1) p.1 p.2 := by
      show ((evVs Φ src ρ).bind fun p => match srcf kd p.1 with
        | some items => forR (fun x ρ => (R.ofO (assignT t (.val x) ρ)).bind fun ρ1 => evSs Φ b ρ1) items p.2
        | none => .bad) = _
      unfold srcR
      cases evVs Φ src ρ with
      | exc _ _ _ => rfl
      | bad => rfl
      | ok p =>
        dsimp only [R.bind]
        cases srcf kd p.1 <;> rfl
    rw [← e]; exact a
  refine a2.bind.imp fun items ρ1 O1 H1 R1 _ q J wk => ?_
  dsimp only at q
  let step := fun x ρ => (R.ofO (assignT t (.val x) ρ) : R Sts Sts).bind fun ρ1 => evSs Φ b ρ1
  let Pv : Nat → St → Hp → Prop := fun i σ' H' => ∃ O' ρ', Rel P O' ρ' σ' H' ∧ Ext O1 H1 O' H' ∧ AftS P W O' H' (forR step (items.drop i) ρ') D
  refine ⟨fun i m σ' H' => m = items.length - i ∧ i ≤ items.length ∧ Pv i σ' H', ⟨items.length, by simp, Nat.zero_le _, O1, ρ1, R1, .refl, q⟩, ?_⟩
  rintro i m σ2 H2 ⟨rfl, hi, O2, ρ2, R2, x2, q2⟩
  by_cases hlt : i < items.length
  · refine .inr ⟨wk.go i O2 H2 hlt x2, Pv (i + 1), fun σ' H' p' => ⟨items.length - (i + 1), by omega, rfl, hlt, p'⟩, fun x H3 y => ?_⟩
    obtain ⟨s3, d, hd, rd⟩ := wk.yld i O2 H2 x H3 hlt x2 R2.odom y
    have R3 := R2.same s3
    have x3 : Ext O2 H2 O2 H3 := .same s3
    rw [List.drop_eq_getElem_cons hlt] at q2
    have hd' : items[i] = d := by
      rw [List.getElem?_eq_getElem hlt] at hd; exact Option.some.inj hd
    rw [hd'] at q2
    replace q2 : AftS P W O2 H2 (match step d ρ2 with
      | .ok (.nx ρ1) => forR step (items.drop (i + 1)) ρ1
      | .ok (.ct ρ1) => forR step (items.drop (i + 1)) ρ1
      | .ok (.bk ρ1) => .ok (.nx ρ1)
      | .ok (.rt s ρ1) => .ok (.rt s ρ1)
      | .exc c x e => .exc c x e
      | .bad => .bad) D := q2
    cases hA : assignT t (.val d) ρ2 with
    | none =>
      have e : step d ρ2 = .bad := by show (R.ofO (assignT t (.val d) ρ2) : R Sts Sts).bind _ = _; rw [hA]; rfl
      rw [e] at q2
      exact q2.elim
    | some ρ3 =>
      have e : step d ρ2 = evSs Φ b ρ3 := by show (R.ofO (assignT t (.val d) ρ2) : R Sts Sts).bind _ = _; rw [hA]; rfl
      rw [e] at q2
      refine ⟨O2, ρ2, .val d, ρ3, R3, rd, hA, fun O4 σ4 R4 x4 _ => ⟨O4, ρ3, R4, ?_⟩⟩
      have q3 := q2.mono (x3.trans x4)
      have x24 := x2.trans (x3.trans x4)
      revert q3
      cases evSs Φ b ρ3 with
      | bad => exact fun q => q
      | exc c x e => exact fun q => q
      | ok o => cases o with
        | nx ρ5 => exact fun q O5 σ5 H5 R5 x5 => ⟨O5, ρ5, R5, x24.trans x5, AftS.mono q x5⟩
        | ct ρ5 => exact fun q O5 σ5 H5 R5 x5 => ⟨O5, ρ5, R5, x24.trans x5, AftS.mono q x5⟩
        | bk ρ5 => exact fun q => q
        | rt s ρ5 => exact fun q => q
  · have e : i = items.length := by omega
    subst e
    rw [List.drop_length] at q2
    exact .inl ⟨wk.stop O2 H2 x2, AftS.nxt q2 R2⟩
theorem ps_forD {tg it : Expr} {t : T} {kd : Sk} {src : List E} {b : List Stmt} {cb : List S} {pos : Pos} (ok : Ok X W P Γ Φ k) (hi : PI X tg it (tSrc P W Φ kd src)) (hd : isDisp it = false) (ht : PG X tg (tGt P t)) (hb : PSs X b (tS P W (evSs Φ cb))) :
    PS X (.For tg it b [] pos) (tS P W (evS Φ (.for t kd src cb))) :=
  (ps_for ok.po ok.calm hi ht hb (set_plain hd _)).weak fun D σ H h => for_rd h
/-! ### x[i] = v -/
theorem ps_setiD {x : Str} {p p2 pos : Pos} {i : Nat} {e ix : Expr} {ce ci : E} (hs : isSlice ix = false) (hsw : notComp e = true) (hx : PE X (.Name x p) (tVar i)) (he : PE X e (tE P W Φ ce)) (hi : PE X ix (tE P W Φ ci)) :
    PS X (.Assign [.Subscript (.Name x p) ix p2] e pos) (tS P W (evS Φ (.seti i ci ce))) := by
  have ha : ∀ v, assign (.Subscript (.Name x p) ix p2) X.env v = (do
      let ov ← holding [v] (eval (.Name x p) X.env)
      let iv ← holding [v, ov] (eval ix X.env)
      standAt p2
      holding [v, ov, iv] (setItem ov iv v)
      release [v, ov, iv] []) := fun v => by
    cases ix <;> first | rfl | cases hs
  have hsw' : swapsWithSole [.Subscript (.Name x p) ix p2] e pos.line X.env = pure false := swaps_plain (t := some (.Subscript (.Name x p) ix p2)) (l := pos.line) (env := X.env) hsw
  refine (ps_asg (tV_of he) (pg_sub hx (tV_of hi) set_list ha) hsw' rfl rfl).weak fun D σ H ⟨O, ρ, Z, a⟩ => ⟨O, ρ, Z, ?_⟩
  have a2 : AftS P W O H ((rel (ev Φ ce ρ)).bind fun x => if isOwn x.2 i then (rel (ev Φ ci x.2)).bind fun y => match (y.2[i]?).bind Slot.mu? with
    | some d => (R.ofO (setf d y.1 x.1)).map fun d' => .nx (putE y.2 i d')
    | none => .bad
    else .bad) D := a
  refine a2.bind.imp fun dv ρ1 O1 H1 R1 _ q v rv => ?_
  dsimp only at q
  split at q
  · rename_i c
    unfold isOwn at c
    obtain ⟨d0, hd0⟩ := Option.isSome_iff_exists.mp c
    obtain ⟨a, h1, h2, h3, h4⟩ := R1.mu hd0
    refine ⟨.ref a, h1, O1, ρ1, R1, ?_⟩
    refine q.bind.imp fun dk ρ2 O2 H2 R2 x2 q kv rk => ?_
    dsimp only at q
    split at q
    · rename_i d hd
      obtain ⟨d', hs', q⟩ := AftS.of q
      obtain ⟨a', g1, g2, g3, g4⟩ := R2.mu hd
      rw [h1] at g1; cases g1
      unfold setf at hs'
      split at hs'
      · rename_i xs kk
        obtain ⟨j, hj, rfl⟩ := Option.map_eq_some_iff.mp hs'
        obtain ⟨zs, e1, r1⟩ := g3
        cases rk
        have ck := cut_in (H := H2) (O := O2) (o := HO.lst (zs.set j v)) g2
        have R3 := R2.change (o := HO.lst (zs.set j v)) (d' := .lst (xs.set j dv)) hd h1 trivial ⟨_, upd_same, by rw [ck]; exact r1.set j (x2.rep rv)⟩
        exact ⟨a, zs, kk, j, rfl, rfl, e1, by rw [r1.length]; exact hj, q O2 σ _ R3 (ext_in g2)⟩
      · cases hs'
    · exact q.elim
  · exact q.elim
/-! ### x op= e -/
theorem pip_aug {o : Operator} : PIp X o (fun x y H Q => ∃ O d e r, Rep P.G (cut H O) x d ∧ Rep P.G (cut H O) y e ∧ augf o d e = some r ∧ ∀ v H', Same H H' → Rep P.G (cut H' O) v r → Q v H') := by
  intro pins s σ H x y v u Q I rx ry ⟨O, d, e, r, h1, h2, hg, q⟩
  have hs : sizeLine = 16777216 := sizeLine_eq
  unfold augf at hg
  split at hg
  · cases h1; cases h2; cases hg
    exact iop_add pins s σ H _ _ v u Q I rx ry ⟨_, _, rfl, rfl, q _ _ same_refl (.int _)⟩
  · cases h1; cases h2; cases hg
    exact iop_sub pins s σ H _ _ v u Q I rx ry ⟨_, _, rfl, rfl, q _ _ same_refl (.int _)⟩
  · split at hg <;> cases hg
    rename_i c
    cases h1; cases h2
    exact iop_mulX pins s σ H _ _ v u Q I rx ry ⟨_, _, rfl, rfl, c, q _ _ same_refl (.int _)⟩
  · split at hg <;> cases hg
    rename_i c
    cases h1; cases h2
    exact iop_add_str pins s σ H _ _ v u Q I rx ry ⟨_, _, rfl, rfl, by rw [hs]; exact c, q _ _ same_refl (.str _)⟩
  · cases hg
theorem ps_augD {x : Str} {p pos : Pos} {i : Nat} {e : Expr} {o : Operator} {c : E} (ok : Ok X W P Γ Φ k) (ha : Γ.asgn x = true) (hi : ixOf Γ.N x = some i) (he : PE X e (tE P W Φ c)) :
    PS X (.AugAssign (.Name x p) o e pos) (tS P W (evS Φ (.aug i o c))) := by
  have h1 : X.N[i]? = some x := by rw [ok.N]; exact ixOf_at hi
  have hN : X.N.Nodup := by rw [ok.N]; exact ok.nd
  have ho := pip_aug (X := X) (P := P) (o := o)
  have hps : PS X (.AugAssign (.Name x p) o e pos) (tAug i (tV P W fun ρ => rel (ev Φ c ρ)) (fun x y H Q => ∃ O d e r, Rep P.G (cut H O) x d ∧ Rep P.G (cut H O) y e ∧ augf o d e = some r ∧ ∀ v H', Same H H' → Rep P.G (cut H' O) v r → Q v H')) := by
    unfold Ctx.asgn at ha
    split at ha
    · rename_i e
      have e' : X.env.scope.names.lookup x = some .local := by rw [ok.sc]; exact e
      exact ps_aug hN h1 (.inl e') (tV_of he) ho (.inr e')
    · rename_i e
      have e' : X.env.scope.names.lookup x = some .cell := by rw [ok.sc]; exact e
      exact ps_aug hN h1 (.inr e') (tV_of he) ho (.inl (ok.fn x ha))
    · cases ha
  refine hps.weak fun D σ H ⟨O, ρ, Z, a⟩ => ?_
  replace a : AftS P W O H (match ρ[i]? with
    | some (.val d) => (rel (ev Φ c ρ)).bind fun x => (R.ofO (augf o d x.1)).map fun d' => .nx (x.2.set i (.val d'))
    | _ => .bad) D := a
  split at a
  · rename_i d hd
    obtain ⟨v, h2, h3⟩ := Z.val i d hd
    refine ⟨v, h2, O, ρ, Z, ?_⟩
    refine a.bind.imp fun dy ρ1 O1 H1 R1 x1 q y ry => ?_
    obtain ⟨d', hs', q⟩ := AftS.of q
    refine ⟨O1, d, dy, d', x1.rep h3, ry, hs', fun z H' sm rz => ?_⟩
    have R2 := R1.same sm
    have hl : i < ρ1.length := by
      rw [← R1.len]
      exact (List.getElem?_eq_some_iff.mp h2).1
    exact q O1 _ H' (R2.setV hl rz) (.same sm)
  · exact a.elim
end
end DL
namespace DL
open PySem L2
section
variable {X : Cx} {W : WX} {P : Pm} {Γ : Ctx} {Φ : Nat → Fn} {k : Nat} {O O1 : List Addr} {H H1 : Hp} {σ : St} {ρ : Sts}
/-! ## several stores at once -/
def ownsOf : List V → List Slot → List Addr
  | .ref a :: vs, .own _ :: ss => a :: ownsOf vs ss
  | _ :: vs, _ :: ss => ownsOf vs ss
  | _, _ => []
def tPs (P : Pm) (W : WX) (Φ : Nat → Fn) (cs : List E) : TA := fun σ H Q => ∃ O ρ, Rel P O ρ σ H ∧ Aft P W σ O H (evPs Φ cs ρ) fun ss ρ' O' H' => ∀ vs, Paired (RepR P O' ρ' σ H') vs ss → (ownsOf vs ss).Nodup → Q vs H'
def xPs (P : Pm) (W : WX) (Φ : Nat → Fn) (cs : List E) : TA := fun σ H Q => ∃ P' : Pm, P'.G = P.G ∧ tPs P' W Φ cs σ H Q
theorem Rel.hidIn {a : Addr} {o : HO} (R : Rel P O ρ σ H) (h1 : a ∈ O) (h2 : a ∉ P.ex) (ap : Apart ρ σ a) (ho : H a = some o) : Rel (P.hid a o) O ρ σ H := by
  refine ⟨R.len, R.val, fun i d e => ?_, R.io, R.dis, R.iod, fun b x k1 k2 => ?_, fun b k => ?_, R.odom, fun b k => ?_, fun b k => List.mem_cons_of_mem _ (R.sub b k)⟩
  · obtain ⟨b, q1, q2, q3, q4⟩ := R.own i d e
    refine ⟨b, q1, q2, fun z => ?_, q4⟩
    rcases List.mem_cons.mp z with rfl | z
    · exact ap i d e q1
    · exact q3 z
  · replace k2 : upd P.H0 a o b = some x := k2
    by_cases hb : b = a
    · subst hb; rw [upd_same] at k2; rw [ho]; exact k2
    · rw [upd_ne hb] at k2
      exact R.fr b x k1 k2
  · show b ∈ a :: P.ex ∨ upd P.H0 a o b = none
    by_cases ha : b = a
    · exact .inl (by rw [ha]; exact List.mem_cons_self)
    · rw [upd_ne ha]
      exact (R.ofr b k).imp (List.mem_cons_of_mem _) id
  · rcases List.mem_cons.mp k with rfl | k
    · exact h1
    · exact R.exs b k
theorem RepR.ext {v : V} {s : Slot} {P' : Pm} {ρ' : Sts} (h : RepR P' O ρ σ H v s) (hG : P'.G = P.G) (he : ∀ a, a ∈ P.ex → a ∈ P'.ex) : RepR P O ρ σ H v s := by
  cases s with
  | val d => rw [RepR, hG] at h; exact h
  | own d =>
    obtain ⟨a, h1, h2, h3, h4, h5⟩ := h
    exact ⟨a, h1, h2, fun z => h3 (he a z), h4, by rw [hG] at h5; exact h5⟩
  | emp => exact h
  | io _ => exact h
theorem mem_owns {a : Addr} : ∀ {vs : List V} {ss : List Slot}, Paired (RepR P O ρ σ H) vs ss → a ∈ ownsOf vs ss → a ∉ P.ex
  | _, _, .nil, h => by simp [ownsOf] at h
  | _, _, .cons (a := v) (b := s) r rs, h => by
    cases s with
    | own d =>
      obtain ⟨b, rfl, h1, h2, _⟩ := r
      replace h : a ∈ b :: ownsOf _ _ := h
      rcases List.mem_cons.mp h with rfl | h
      · exact h2
      · exact mem_owns rs h
    | val d =>
      refine mem_owns rs ?_
      cases v <;> exact h
    | emp => exact r.elim
    | io _ => exact r.elim
theorem Paired.imp {α β : Type} {F F' : α → β → Prop} : ∀ {l : List α} {m : List β}, Paired F l m → (∀ a b, F a b → F' a b) → Paired F' l m
  | _, _, .nil, _ => .nil
  | _, _, .cons h t, k => .cons (k _ _ h) (Paired.imp t k)
theorem Paired.len {α β : Type} {F : α → β → Prop} : ∀ {l : List α} {m : List β}, Paired F l m → l.length = m.length
  | _, _, .nil => rfl
  | _, _, .cons _ t => by simp [Paired.len t]
/-- lists of compiled expressions, for any frame -/
def SndX (X : Cx) (P : Pm) (W : WX) (Φ : Nat → Fn) (es : List Expr) (cs : List E) : Prop := ∀ P' : Pm, P'.G = P.G → SndL X P' W Φ es cs
theorem SndX.ps : ∀ {es : List Expr} {cs : List E} {P : Pm}, SndX X P W Φ es cs → PA X es (tPs P W Φ cs)
  | [], cs, P, h => by
    cases h P rfl
    exact pa_nil.weak fun σ H Q ⟨O, ρ, Z, a⟩ => Aft.now a Z [] .nil (by simp [ownsOf])
  | e :: es, cs, P, h => by
    cases hc : cs with
    | nil => cases hc; cases h P rfl
    | cons c cs' =>
      cases hc
      have hn : nst e = true := by cases h P rfl; assumption
      have hd : ∀ P' : Pm, P'.G = P.G → Snd X P' W Φ e c := fun P' hG => by cases h P' hG; assumption
      have tl : ∀ P' : Pm, P'.G = P.G → PA X es (tPs P' W Φ cs') := fun P' hG => SndX.ps (P := P') fun P2 h2 => by
        cases h P2 (h2.trans hG); assumption
      have tx : PA X es (xPs P W Φ cs') := ⟨fun pos pins s σ H Q I ⟨P', hG, z⟩ => (tl P' hG).run pos pins s σ H Q I z⟩
      refine (pa_consN hn (hd P rfl).pe tx).weak fun σ H Q ⟨O, ρ, Z, a⟩ => ⟨O, ρ, Z, ?_⟩
      have a2 : Aft P W σ O H ((ev Φ c ρ).bind fun p => (evPs Φ cs' p.2).map fun q => (p.1 :: q.1, q.2)) fun ss ρ' O' H' => ∀ vs, Paired (RepR P O' ρ' σ H') vs ss → (ownsOf vs ss).Nodup → Q vs H' := a
      refine a2.bind.imp fun s ρ1 O1 H1 R1 _ q v rv => ?_
      have q := Aft.map (f := fun q : List Slot × Sts => (s :: q.1, q.2)) (fun _ => rfl) q
      cases s with
      | val d =>
        refine ⟨P, rfl, O1, ρ1, R1, q.imp fun ss ρ2 O2 H2 R2 x2 q vs rvs nd => q _ (.cons (x2.rep rv) rvs) ?_⟩
        cases v <;> exact nd
      | own d =>
        obtain ⟨a, rfl, h1, h2, h3, h4⟩ := rv
        have h0 : P.H0 a = none := (R1.ofr a h1).resolve_left h2
        cases d with
        | lst ds =>
          obtain ⟨xs, g1, g2⟩ := h4
          refine ⟨P.hid a (.lst xs), rfl, O1, ρ1, R1.hidIn h1 h2 h3 g1, ?_⟩
          revert q
          cases evPs Φ cs' ρ1 with
          | bad => exact fun q => q
          | exc cc x ρ2 => exact fun q O2 H2 cv dd R2 x2 ex => q O2 H2 cv dd (R2.hidOut h2 h0 R1.sub).1 x2 ex
          | ok p =>
            intro q O2 H2 R2 x2 vs rvs nd
            obtain ⟨R3, ap⟩ := R2.hidOut h2 h0 R1.sub
            obtain ⟨k1, k2⟩ := R2.hidAt h2 R1.sub
            refine q O2 H2 R3 x2 _ (.cons ⟨a, rfl, k2, h2, ap, xs, k1, x2.reps g2⟩ (DL.Paired.imp rvs fun w t r => r.ext (ρ' := ρ1) rfl fun b hb => List.mem_cons_of_mem _ hb)) ?_
            show (a :: ownsOf vs p.1).Nodup
            exact List.nodup_cons.mpr ⟨fun m => mem_owns rvs m List.mem_cons_self, nd⟩
        | _ => exact h4.elim
      | emp => exact rv.elim
      | io _ => exact rv.elim
/-- one store, the others not yet stored -/
theorem setT2 (R : Rel P O ρ σ H) {i : Nat} {o : Bool} {s : Slot} {v : V} {ρ' : Sts} (hs : RepR P O ρ σ H v s) (h : assignT (.name i o) s ρ = some ρ') : ∃ O', Rel P O' ρ' (σ.set i (some v)) H ∧ Ext O H O' H ∧
    ∀ w t, RepR P O ρ σ H w t → (∀ d e, s = .own d → t = .own e → w ≠ v) → RepR P O' ρ' (σ.set i (some v)) H w t := by
  replace h : (if i < ρ.length then some (ρ.set i (if o then s else .val s.d)) else none) = some ρ' := h
  split at h
  rotate_left
  · cases h
  rename_i hi
  cases h
  have ls : i < σ.length := by rw [R.len]; exact hi
  -- apart from b: the slots but i, and what is put there
  have apart : ∀ {b : Addr} {s' : Slot}, Apart ρ σ b → (∀ d, s' = .own d → v ≠ .ref b) → Apart (ρ.set i s') (σ.set i (some v)) b := fun {b s'} ap hv j d e z => by
    by_cases hj : i = j
    · subst hj
      rw [List.getElem?_set_self hi] at e
      rw [List.getElem?_set_self ls] at z
      cases e
      have := hv d rfl
      cases z
      exact this rfl
    · rw [List.getElem?_set_ne hj] at e z
      exact ap j d e z
  cases s with
  | val d =>
    have e : (if o = true then Slot.val d else .val (Slot.val d).d) = .val d := by cases o <;> rfl
    rw [e]
    refine ⟨O, R.setV hi hs, .refl, fun w t r _ => ?_⟩
    cases t with
    | val e => exact r
    | own e =>
      obtain ⟨b, k1, k2, k3, k4, k5⟩ := r
      exact ⟨b, k1, k2, k3, apart k4 (fun d z => by cases z), k5⟩
    | emp => exact r
    | io _ => exact r
  | own d =>
    obtain ⟨a, rfl, h1, h2, h3, h4⟩ := hs
    cases o with
    | true =>
      rw [if_pos rfl]
      refine ⟨O, R.setO hi h1 h2 h3 h4, .refl, fun w t r ne => ?_⟩
      cases t with
      | val e => exact r
      | own e =>
        obtain ⟨b, k1, k2, k3, k4, k5⟩ := r
        refine ⟨b, k1, k2, k3, apart k4 (fun d' z hb => ?_), k5⟩
        exact ne d e rfl rfl (by rw [k1, hb])
      | emp => exact r
      | io _ => exact r
    | false =>
      rw [if_neg Bool.false_ne_true]
      have k := (ext_drop (O := O) (H := H) a).cuts
      have R1 := R.release h2 h3
      have rp : Rep P.G (cut H (O.filter (· ≠ a))) (.ref a) d := h4.rep k fun o e => cut_some.mpr ⟨by simp, e⟩
      refine ⟨_, R1.setV hi rp, ext_drop a, fun w t r ne => ?_⟩
      cases t with
      | val e => exact Rep.mono k r
      | own e =>
        obtain ⟨b, k1, k2, k3, k4, k5⟩ := r
        have hb : b ≠ a := fun z => ne d e rfl rfl (by rw [k1, z])
        exact ⟨b, k1, List.mem_filter.mpr ⟨k2, by simpa using hb⟩, k3, apart k4 (fun d' z => by cases z), k5.mono (fun _ q => q) k⟩
      | emp => exact r
      | io _ => exact r
  | emp => exact hs.elim
  | io _ => exact hs.elim
def setAll : St → List (Nat × Bool) → List V → St
  | σ, (i, _) :: ts, v :: vs => setAll (σ.set i (some v)) ts vs
  | σ, _, _ => σ
theorem setPs : ∀ {ts : List (Nat × Bool)} {ss : List Slot} {vs : List V} {O : List Addr} {ρ ρ' : Sts} {σ : St}, Rel P O ρ σ H → Paired (RepR P O ρ σ H) vs ss → (ownsOf vs ss).Nodup → assignPs ts ss ρ = some ρ' → ∃ O', Rel P O' ρ' (setAll σ ts vs) H ∧ Ext O H O' H
  | [], ss, vs, O, ρ, ρ', σ, R, rs, nd, h => by
    cases rs with
    | nil => cases h; exact ⟨O, R, .refl⟩
    | cons _ _ => cases h
  | (i, o) :: ts, ss, vs, O, ρ, ρ', σ, R, rs, nd, h => by
    cases rs with
    | nil => cases h
    | cons r rs =>
      rename_i v s vs ss
      replace h : (assignT (.name i o) s ρ).bind (fun ρ1 => assignPs ts ss ρ1) = some ρ' := h
      obtain ⟨ρ1, h1, h2⟩ := Option.bind_eq_some_iff.mp h
      obtain ⟨O1, R1, x1, k⟩ := setT2 R r h1
      have nd2 : (ownsOf vs ss).Nodup ∧ ∀ d a, s = .own d → v = .ref a → a ∉ ownsOf vs ss := by
        cases s with
        | own d =>
          obtain ⟨a, rfl, _⟩ := r
          replace nd : (a :: ownsOf vs ss).Nodup := nd
          have := List.nodup_cons.mp nd
          exact ⟨this.2, fun d' a' _ z => by cases z; exact this.1⟩
        | val d => exact ⟨by cases v <;> exact nd, fun d' a' z => by cases z⟩
        | emp => exact r.elim
        | io _ => exact r.elim
      have ne : ∀ w t, (w, t) ∈ vs.zip ss → ∀ a e, w = .ref a → t = .own e → a ∈ ownsOf vs ss := by
        clear nd2 h2 k nd h
        induction rs with
        | nil => intro w t m; simp at m
        | cons r' rs' ih =>
          intro w t m a e hw ht
          rename_i w' t' vs' ss'
          rw [List.zip_cons_cons] at m
          rcases List.mem_cons.mp m with z | z
          · cases z
            subst hw ht
            exact List.mem_cons_self
          · have := ih w t z a e hw ht
            cases w' <;> cases t' <;> first
              | exact this
              | exact List.mem_cons_of_mem _ this
      have rs2 : Paired (RepR P O1 ρ1 (σ.set i (some v)) H) vs ss := by
        have gen : ∀ {vs' : List V} {ss' : List Slot}, Paired (RepR P O ρ σ H) vs' ss' → (∀ w t, (w, t) ∈ vs'.zip ss' → (w, t) ∈ vs.zip ss) → Paired (RepR P O1 ρ1 (σ.set i (some v)) H) vs' ss' := fun {vs' ss'} p => by
          induction p with
          | nil => intro _; exact .nil
          | cons r' _ ih =>
            intro hm
            rename_i w t _ _ 
            refine .cons (k _ _ r' fun d e hs ht hw => ?_) (ih fun w t m => hm w t (by rw [List.zip_cons_cons]; exact List.mem_cons_of_mem _ m))
            subst hs ht
            obtain ⟨a, rfl, _⟩ := r'
            have m := hm _ _ (by rw [List.zip_cons_cons]; exact List.mem_cons_self)
            exact nd2.2 d a rfl hw.symm (ne _ _ m a e rfl rfl)
        exact gen rs fun _ _ m => m
      obtain ⟨O2, R2, x2⟩ := setPs R1 rs2 nd2.1 h2
      exact ⟨O2, R2, x1.trans x2⟩
/-! ### when the stores are swapped -/
def isFun : ScopeKind → Bool
  | .function => true
  | _ => false
def swapK (sc : Scope) (ts vs : List Expr) : Option (Option (List Str)) :=
  if !(ts.length == 2 || ts.length == 3) || vs.length != ts.length then some none
  else if vs.any fun | .Starred .. => true | _ => false then some none
  else
    let line := (ts.head?.map (·.pos.line)).getD 0
    let names := ts.filterMap fun
      | .Name id pos => if sc.names.lookup id == some .local && pos.line == line then some id else none
      | _ => none
    if names.length != ts.length || names.eraseDups.length != names.length then some none
    else if vs.all (foldedForSure 8) then some none
    else if vs.all (constantsAlone 8) then none
    else some (some names)
theorem swap_of {env : PySem.Env} {ts vs : List Expr} {kt k2 : Nat} {p p2 : Pos} {r : Option (List Str)} (hk : isFun env.scope.kind = true) (h : swapK env.scope ts vs = some r) : swappedStores [.Tuple ts kt p] (.Tuple vs k2 p2) env = pure r := by
  have hb : env.blockKind = .function := by
    unfold Env.blockKind
    cases e : env.scope.kind <;> rw [e] at hk <;> first | rfl | cases hk
  have hb' : (env.blockKind != .function) = false := by rw [hb]; rfl
  unfold swapK at h
  unfold swappedStores Env.kindOf
  simp only [hb', Bool.or_false]
  dsimp only at h
  split at h
  · rename_i c; cases h; exact if_pos c
  rename_i c
  refine (if_neg c).trans ?_
  split at h
  · rename_i c; cases h; exact if_pos c
  rename_i c
  refine (if_neg c).trans ?_
  split at h
  · rename_i c; cases h; exact if_pos c
  rename_i c
  refine (if_neg c).trans ?_
  split at h
  · rename_i c; cases h; exact if_pos c
  rename_i c
  refine (if_neg c).trans ?_
  split at h
  · cases h
  rename_i c
  cases h
  exact if_neg c
theorem par_rd {ts : List (Nat × Bool)} {cs : List E} {D : Ends} (h : tS P W (evS Φ (.par ts cs)) D σ H) : tPs P W Φ cs σ H fun vs H1 => D.nx (setAll σ ts vs) H1 := by
  obtain ⟨O, ρ, Z, a⟩ := h
  refine ⟨O, ρ, Z, ?_⟩
  have a2 : AftS P W O H ((evPs Φ cs ρ).bind fun p => (R.ofO (assignPs ts p.1 p.2)).map .nx) D := a
  refine a2.bind.imp fun ss ρ1 O1 H1 R1 _ q vs rvs nd => ?_
  obtain ⟨ρ2, h1, q⟩ := AftS.of q
  obtain ⟨O2, R2, x2⟩ := setPs R1 rvs nd h1
  exact q O2 _ H1 R2 x2
theorem tPs.imp {cs : List E} {Q Q' : List V → Hp → Prop} (h : tPs P W Φ cs σ H Q) (hl : ∀ v H', v.length = cs.length → Q v H' → Q' v H') : tPs P W Φ cs σ H Q' := by
  obtain ⟨O, ρ, Z, a⟩ := h
  refine ⟨O, ρ, Z, a.eq.imp fun ss ρ1 O1 H1 R1 _ ⟨e, q⟩ vs rvs nd => hl _ _ ?_ (q vs rvs nd)⟩
  have l1 : vs.length = ss.length := DL.Paired.len rvs
  have l2 : ∀ {cs : List E} {ρ : Sts} {p : List Slot × Sts}, evPs Φ cs ρ = .ok p → p.1.length = cs.length := fun {cs} => by
    induction cs with
    | nil => intro ρ p h; cases h; rfl
    | cons c cs ih =>
      intro ρ p h
      replace h : ((ev Φ c ρ).bind fun p => (evPs Φ cs p.2).map fun q => (p.1 :: q.1, q.2)) = .ok p := h
      obtain ⟨p1, h1, h2⟩ := bind_okR h
      obtain ⟨p2, h3, h4⟩ := map_okR h2
      cases h4
      simp [ih h3]
  rw [l1, l2 e]
theorem ps_par2D {x y : Str} {i j : Nat} {ox oy : Bool} {a b : Expr} {ca cb : E} {px py pt pos : Pos} {kt k2 : Nat} {pt2 : Pos} (ok : Ok X W P Γ Φ k) (hk : isFun Γ.sc.kind = true) (hsw : swapK Γ.sc [.Name x px, .Name y py] [a, b] = some (some [x, y]))
    (hi : ixOf Γ.N x = some i) (hj : ixOf Γ.N y = some j) (hx : Γ.sc.names.lookup x = some .local) (hy : Γ.sc.names.lookup y = some .local) (hne : x ≠ y) (h : SndX X P W Φ [a, b] [ca, cb]) :
    PS X (.Assign [.Tuple [.Name x px, .Name y py] kt pt] (.Tuple [a, b] k2 pt2) pos) (tS P W (evS Φ (.par [(i, ox), (j, oy)] [ca, cb]))) := by
  have hN : X.N.Nodup := by rw [ok.N]; exact ok.nd
  have h1 : X.N[i]? = some x := by rw [ok.N]; exact ixOf_at hi
  have h2 : X.N[j]? = some y := by rw [ok.N]; exact ixOf_at hj
  have hij : i ≠ j := fun z => hne (by subst z; rw [h1] at h2; exact Option.some.inj h2)
  refine (ps_par ok.calm hN h1 h2 hij (by rw [ok.sc]; exact hx) (by rw [ok.sc]; exact hy) h.ps (swap_of (by rw [ok.sc]; exact hk) (by rw [ok.sc]; exact hsw))).weak fun D σ H h => ?_
  refine (par_rd h).imp fun vs H1 hl q => ?_
  match vs, hl with
  | [v, w], _ => exact ⟨v, w, rfl, q⟩
theorem ps_par3D {x y z : Str} {i j l : Nat} {ox oy oz : Bool} {a b c : Expr} {ca cb cc : E} {px py pz pt pos : Pos} {kt k2 : Nat} {pt2 : Pos} (ok : Ok X W P Γ Φ k) (hk : isFun Γ.sc.kind = true) (hsw : swapK Γ.sc [.Name x px, .Name y py, .Name z pz] [a, b, c] = some (some [x, y, z]))
    (hi : ixOf Γ.N x = some i) (hj : ixOf Γ.N y = some j) (hl : ixOf Γ.N z = some l) (hx : Γ.sc.names.lookup x = some .local) (hy : Γ.sc.names.lookup y = some .local) (hz : Γ.sc.names.lookup z = some .local) (hne : x ≠ y) (hne2 : x ≠ z) (hne3 : y ≠ z) (h : SndX X P W Φ [a, b, c] [ca, cb, cc]) :
    PS X (.Assign [.Tuple [.Name x px, .Name y py, .Name z pz] kt pt] (.Tuple [a, b, c] k2 pt2) pos) (tS P W (evS Φ (.par [(i, ox), (j, oy), (l, oz)] [ca, cb, cc]))) := by
  have hN : X.N.Nodup := by rw [ok.N]; exact ok.nd
  have h1 : X.N[i]? = some x := by rw [ok.N]; exact ixOf_at hi
  have h2 : X.N[j]? = some y := by rw [ok.N]; exact ixOf_at hj
  have h3 : X.N[l]? = some z := by rw [ok.N]; exact ixOf_at hl
  have hij : i ≠ j := fun e => hne (by subst e; rw [h1] at h2; exact Option.some.inj h2)
  have hil : i ≠ l := fun e => hne2 (by subst e; rw [h1] at h3; exact Option.some.inj h3)
  have hjl : j ≠ l := fun e => hne3 (by subst e; rw [h2] at h3; exact Option.some.inj h3)
  refine (ps_par3 ok.calm hN h1 h2 h3 hij hil hjl (by rw [ok.sc]; exact hx) (by rw [ok.sc]; exact hy) (by rw [ok.sc]; exact hz) h.ps (swap_of (by rw [ok.sc]; exact hk) (by rw [ok.sc]; exact hsw))).weak fun D σ H h => ?_
  refine (par_rd h).imp fun vs H1 hl q => ?_
  match vs, hl with
  | [u, v, w], _ => exact ⟨u, v, w, rfl, q⟩
/-! ### .. and when a tuple is made first -/
def parN (Γ : Ctx) : List Expr → Option (List (Nat × Bool))
  | [] => some []
  | .Name x _ :: ts => if Γ.asgn x then match ixOf Γ.N x, parN Γ ts with
      | some i, some r => some ((i, Γ.M.contains x) :: r)
      | _, _ => none else none
  | _ :: _ => none
theorem parN_snd (ok : Ok X W P Γ Φ k) : ∀ {ts : List Expr} {ps : List (Nat × Bool)}, parN Γ ts = some ps → ps.length = ts.length ∧ ts.all nst = true ∧ PGs X ts (fun vs σ H Q => vs.length = ps.length ∧ Q (setAll σ ps vs) H)
  | [], ps, h => by
    cases h
    refine ⟨rfl, rfl, pgs_nil.weak fun v σ H Q ⟨z, q⟩ => ?_⟩
    cases v with
    | nil => exact ⟨rfl, q⟩
    | cons _ _ => cases z
  | .Name x p :: ts, ps, h => by
    unfold parN at h
    split at h
    rotate_left
    · cases h
    rename_i ha
    split at h
    · rename_i i r h1 h2
      cases h
      obtain ⟨q1, q2, q3⟩ := parN_snd ok h2
      refine ⟨by simp [q1], by rw [List.all_cons, q2]; rfl, (pgs_cons (ok.tgt ha h1) q3 (by rw [each_nst rfl]; rfl)).weak fun v σ H Q ⟨z, q⟩ => ?_⟩
      cases v with
      | nil => cases z
      | cons v vs => exact ⟨v, vs, rfl, by simpa using z, q⟩
    · cases h
  | .BoolOp .. :: _, _, h | .NamedExpr .. :: _, _, h | .BinOp .. :: _, _, h | .UnaryOp .. :: _, _, h | .Lambda .. :: _, _, h | .IfExp .. :: _, _, h | .Dict .. :: _, _, h | .Set .. :: _, _, h
  | .ListComp .. :: _, _, h | .SetComp .. :: _, _, h | .DictComp .. :: _, _, h | .GeneratorExp .. :: _, _, h | .Await .. :: _, _, h | .Yield .. :: _, _, h | .YieldFrom .. :: _, _, h | .Compare .. :: _, _, h
  | .Call .. :: _, _, h | .FormattedValue .. :: _, _, h | .JoinedStr .. :: _, _, h | .Constant .. :: _, _, h | .Attribute .. :: _, _, h | .Subscript .. :: _, _, h | .Starred .. :: _, _, h | .List .. :: _, _, h | .Slice .. :: _, _, h | .Tuple .. :: _, _, h => by cases h
theorem RepR.same {v : V} {s : Slot} {H' : Hp} (h : RepR P O ρ σ H v s) (e : Same H H') : RepR P O ρ σ H' v s := by
  have k : ∀ b o, cut H O b = some o → cut H' O b = some o := (Ext.same e).cuts
  cases s with
  | val d => exact Rep.mono k h
  | own d =>
    obtain ⟨a, h1, h2, h3, h4, h5⟩ := h
    exact ⟨a, h1, h2, h3, h4, h5.mono (fun o => e a o) k⟩
  | emp => exact h
  | io _ => exact h
theorem ps_parN {ts vs : List Expr} {cs : List E} {ps : List (Nat × Bool)} {kt k2 : Nat} {pt pt2 pos : Pos} (ok : Ok X W P Γ Φ k) (hk : isFun Γ.sc.kind = true) (hsw : swapK Γ.sc ts vs = some none) (hn : parN Γ ts = some ps) (hl : cs.length = ps.length) (hm : cs.length ≤ 100) (h : SndX X P W Φ vs cs) :
    PS X (.Assign [.Tuple ts kt pt] (.Tuple vs k2 pt2) pos) (tS P W (evS Φ (.par ps cs))) := by
  obtain ⟨q1, q2, q3⟩ := parN_snd ok hn
  obtain ⟨l1, l2⟩ := each_len (env := X.env) q2
  have hs : sizeLine = 16777216 := sizeLine_eq
  refine (ps_asg (pe_tup h.ps) (pg_tup (n := ts.length) ok.calm q3 l1 l2) rfl (swap_of (by rw [ok.sc]; exact hk) (by rw [ok.sc]; exact hsw)) rfl).weak fun D σ H h => ?_
  obtain ⟨O, ρ, Z, a⟩ := h
  have a2 : AftS P W O H ((evPs Φ cs ρ).bind fun p => (R.ofO (assignPs ps p.1 p.2)).map .nx) D := a
  refine tPs.imp (Q := fun vs H1 => ∀ T, H1 T = none → D.nx (setAll σ ps vs) (upd H1 T (.tup vs))) ⟨O, ρ, Z, ?_⟩ fun v H' lv q => ?_
  · refine a2.bind.imp fun ss ρ1 O1 H1 R1 _ q vs rvs nd T hT => ?_
    obtain ⟨ρ2, h1, q⟩ := AftS.of q
    have sm : Same H1 (upd H1 T (.tup vs)) := same_upd hT
    obtain ⟨O2, R2, x2⟩ := setPs (R1.same sm) (DL.Paired.imp rvs fun w t r => r.same sm) nd h1
    exact q O2 _ _ R2 ((Ext.same sm).trans x2)
  · refine ⟨by rw [lv]; omega, fun T hT => ⟨T, v, rfl, ?_, by rw [lv, hl, q1], by rw [lv, hl], q T hT⟩⟩
    exact .inl (.inl upd_same)
end
end DL
namespace DL
open PySem L2
def swLc (sc scope : Scope) (t : Str) (l1 l2 : Nat) : Bool := sc.names.lookup t == some .local && l1 == l2 && !(scope.names.any fun (n, k) => n == t && (k == .local || k == .cell))
def parE (Γ : Ctx) (names : List Str) (ts vs : List Expr) (cs : List E) : Option S := match ts, vs, cs with
  | [.Name x _, .Name y _], [a, b], [ca, cb] => if names = [x, y] && nst a && nst b && decide (x ≠ y) && (Γ.sc.names.lookup x == some .local) && (Γ.sc.names.lookup y == some .local) then match ixOf Γ.N x, ixOf Γ.N y with
      | some i, some j => some (.par [(i, Γ.M.contains x), (j, Γ.M.contains y)] [ca, cb])
      | _, _ => none else none
  | [.Name x _, .Name y _, .Name z _], [a, b, c], [ca, cb, cc] => if names = [x, y, z] && nst a && nst b && nst c && decide (x ≠ y) && decide (x ≠ z) && decide (y ≠ z) && (Γ.sc.names.lookup x == some .local) && (Γ.sc.names.lookup y == some .local) && (Γ.sc.names.lookup z == some .local) then match ixOf Γ.N x, ixOf Γ.N y, ixOf Γ.N z with
      | some i, some j, some l => some (.par [(i, Γ.M.contains x), (j, Γ.M.contains y), (l, Γ.M.contains z)] [ca, cb, cc])
      | _, _, _ => none else none
  | _, _, _ => none
def exprS (n : Nat) (Γ : Ctx) (e : Expr) : Option S := match e with
  | .Constant c _ _ => match c with
    | .str _ => some .pass
    | _ => none
  | e => if notComp e then (cmpE n Γ false e).map .exp else none
def retS (n : Nat) (Γ : Ctx) (e : Expr) : Option S := match e with
  | .Name x _ => match nameE Γ x with
    | some (.var i) => some (.reto i)
    | some (.lit d) => some (.ret (.lit d))
    | _ => none
  | e => (cmpE n Γ false e).map .ret
def setiS (n : Nat) (Γ : Ctx) (x : Str) (ix e : Expr) : Option S :=
  if !(notComp e && !isSlice ix && Γ.vis x && !(x == ("__debug__" : Str)) && !(x == ("__classdict__" : Str))) then none else match ixOf Γ.N x, cmpE n Γ false ix, cmpE n Γ false e with
    | some i, some ci, some ce => some (.seti i ci ce)
    | _, _, _ => none
def asgS (n : Nat) (Γ : Ctx) (tg e : Expr) : Option S := if plainSt tg e && notComp e then match tgtE n Γ tg, cmpE n Γ false e with
    | some t, some c => some (.asg t c)
    | _, _ => none else none
def lcS (n : Nat) (Γ : Ctx) (tg e : Expr) : Option S := if isFun Γ.sc.kind then match tgtE n Γ tg, cmpE n Γ false e with
    | some t, some c => some (.asg t c)
    | _, _ => none else none
def tupS (n : Nat) (Γ : Ctx) (tg e : Expr) (ts vs : List Expr) : Option S := if isFun Γ.sc.kind then match swapK Γ.sc ts vs with
    | some none => match parN Γ ts with
      | some ps => if vs.all nst then match mapO (cmpE n Γ false) vs with
        | some cs => if cs.length = ps.length ∧ cs.length ≤ 100 then some (.par ps cs) else none
        | none => none else none
      | none => match tgtE n Γ tg, cmpE n Γ false e with
        | some t, some c => some (.asg t c)
        | _, _ => none
    | some (some names) => match mapO (cmpE n Γ false) vs with
      | some cs => parE Γ names ts vs cs
      | none => none
    | none => none else none
def nameS (n : Nat) (Γ : Ctx) (x : Str) (p : Pos) (e : Expr) : Option S := match e with
  | .ListComp elt gens scope lp => lcS n Γ (.Name x p) (.ListComp elt gens scope lp)
  | e => asgS n Γ (.Name x p) e
def tupleS (n : Nat) (Γ : Ctx) (ts : List Expr) (kt : Nat) (pt : Pos) (e : Expr) : Option S := match e with
  | .Tuple vs k2 p2 => tupS n Γ (.Tuple ts kt pt) (.Tuple vs k2 p2) ts vs
  | e => asgS n Γ (.Tuple ts kt pt) e
def subS (n : Nat) (Γ : Ctx) (o ix e : Expr) : Option S := match o with
  | .Name x _ => setiS n Γ x ix e
  | _ => none
def tgS (n : Nat) (Γ : Ctx) (tg e : Expr) : Option S := match tg with
  | .Name x p => nameS n Γ x p e
  | .Tuple ts kt pt => tupleS n Γ ts kt pt e
  | .Subscript o ix _ => subS n Γ o ix e
  | _ => none
def augS (n : Nat) (Γ : Ctx) (tg : Expr) (o : Operator) (e : Expr) : Option S := match tg with
  | .Name x _ => if Γ.asgn x then match ixOf Γ.N x, cmpE n Γ false e with
    | some i, some c => some (.aug i o c)
    | _, _ => none else none
  | _ => none
def isNil {α : Type} : List α → Bool
  | [] => true
  | _ => false
def cmpS : Nat → Ctx → Stmt → Option S
  | 0, _, _ => none
  | n + 1, Γ, st => match st with
    | .Expr e _ => exprS n Γ e
    | .Pass _ => some .pass
    | .Break _ => some .brk
    | .Continue _ => some .cnt
    | .Return oe _ => match oe with
      | none => some .retn
      | some e => retS n Γ e
    | .If t a b _ => match cmpE n Γ true t, mapO (cmpS n Γ) a, mapO (cmpS n Γ) b with
      | some ct, some ca, some cb => some (.ite ct ca cb)
      | _, _, _ => none
    | .While t b oe _ => if isNil oe then match cmpE n Γ true t, mapO (cmpS n Γ) b with
      | some ct, some cb => some (.whl ct cb)
      | _, _ => none else none
    | .For tg it b oe _ => if isDisp it || !isNil oe then none else match tgtE n Γ tg, srcE (cmpE n Γ false) Γ tg it, mapO (cmpS n Γ) b with
      | some t, some (kd, src), some cb => some (.for t kd src cb)
      | _, _, _ => none
    | .Assign tgs e _ => match tgs with
      | [tg] => tgS n Γ tg e
      | _ => none
    | .AugAssign tg o e _ => augS n Γ tg o e
    | .Raise _ _ _ => some (.raise "" (.lit .non))
    | _ => none
section
variable {X : Cx} {W : WX} {P : Pm} {Γ : Ctx} {Φ : Nat → Fn} {k : Nat}
def IhS (n : Nat) : Prop := ∀ {X : Cx} {W : WX} {P : Pm} {Γ : Ctx} {Φ : Nat → Fn} {k : Nat} (st : Stmt) (c : S), Ok X W P Γ Φ k → cmpS n Γ st = some c → PS X st (tS P W (evS Φ c))
theorem maps_snd {n : Nat} (ih : IhS n) (ok : Ok X W P Γ Φ k) : ∀ {ss : List Stmt} {cs : List S}, mapO (cmpS n Γ) ss = some cs → PSs X ss (tS P W (evSs Φ cs))
  | [], cs, h => by cases h; exact pss_nilD
  | s :: ss, cs, h => by
    unfold mapO at h
    split at h
    · rename_i b bs h1 h2
      cases h
      exact pss_consD (ih s b ok h1) (maps_snd ih ok h2)
    · cases h
theorem mapX {n : Nat} (ok : Ok X W P Γ Φ k) : ∀ {es : List Expr} {cs : List E}, es.all nst = true → mapO (cmpE n Γ false) es = some cs → SndX X P W Φ es cs :=
  fun {es cs} hn h P' hG => map_snd (cmp_snd n) (ok.pm hG) hn h
theorem lc_inv {n : Nat} {elt : Expr} {gens : List Comprehension} {scope : Scope} {pos : Pos} {c : E} (h : cmpE (n + 1) Γ false (.ListComp elt gens scope pos) = some c) :
    ∃ tg it ifs t kd src ifs' elt', gens = [⟨tg, it, ifs, 0⟩] ∧ c = .lc ((ownOf Γ.N scope).map (·.2)) t kd src ifs' elt' ∧ blkC Γ.N Γ.sc scope (ownOf Γ.N scope) = true ∧ ifs.length ≤ 1 ∧ isDisp it = false ∧
      tgtE n (Γ.blk scope) tg = some t ∧ srcE (cmpE n Γ false) Γ tg it = some (kd, src) ∧ mapO (cmpE n (Γ.blk scope) true) ifs = some ifs' ∧ cmpE n (Γ.blk scope) false elt = some elt' ∧ t.inn ((ownOf Γ.N scope).map (·.2)) = true := by
  unfold cmpE at h
  split at h
  all_goals first
    | (rename_i z; cases z; done)
    | (cases h; done)
    | skip
  rename_i elt' tg it ifs scope' pos' z
  cases z
  split at h
  · cases h
  rename_i hc
  simp only [Bool.or_eq_true, not_or, Bool.not_eq_true, Bool.not_eq_false', decide_eq_true_eq, Nat.not_lt] at hc
  split at h
  · rename_i t kd src ifs' elt' h1 h2 h3 h4
    split at h
    · rename_i hin
      cases h
      exact ⟨tg, it, ifs, t, kd, src, ifs', elt', rfl, rfl, hc.1.1, hc.1.2, hc.2, h1, h2, h3, h4, hin⟩
    · cases h
  · cases h
theorem swLc_of {env : PySem.Env} {elt : Expr} {gens : List Comprehension} {scope : Scope} {pos py : Pos} {y : Str} {l : Nat} (hk : isFun env.scope.kind = true) : swapsWith (.ListComp elt gens scope pos) (some (.Name y py)) l env = pure (swLc env.scope scope y py.line pos.line) := by
  have hb : env.blockKind = .function := by
    unfold Env.blockKind
    cases e : env.scope.kind <;> rw [e] at hk <;> first | rfl | cases hk
  unfold swapsWith swLc Env.kindOf
  simp only [hb, Expr.pos]
  show pure _ = pure _
  congr 1
theorem tgt_comp {e tg : Expr} {l : Nat} {env : PySem.Env} (h : notComp e = true) : swapsWith e (some tg) l env = pure false := swaps_plain h
theorem ps_asgLc {n : Nat} {x : Str} {p lp pos : Pos} {elt : Expr} {gens : List Comprehension} {scope : Scope} {t : T} {c : E} (ok : Ok X W P Γ Φ k) (hk : isFun Γ.sc.kind = true) (ht : tgtE n Γ (.Name x p) = some t) (hc : cmpE n Γ false (.ListComp elt gens scope lp) = some c) :
    PS X (.Assign [.Name x p] (.ListComp elt gens scope lp) pos) (tS P W (evS Φ (.asg t c))) := by
  have hk' : isFun X.env.scope.kind = true := by rw [ok.sc]; exact hk
  have sw := swLc_of (env := X.env) (elt := elt) (gens := gens) (scope := scope) (pos := lp) (py := p) (y := x) (l := pos.line) hk'
  cases hb : swLc X.env.scope scope x p.line lp.line with
  | false =>
    rw [hb] at sw
    exact ps_asgD sw rfl (tgt_snd ok n _ t ht) ((cmp_snd n false _ _ ok hc).val rfl).pe
  | true =>
    rw [hb] at sw
    cases n with
    | zero => cases hc
    | succ n =>
      obtain ⟨tg, it, ifs, t', kd, src, ifs', elt', rfl, rfl, b1, b2, b3, h1, h2, h3, h4, hin⟩ := lc_inv hc
      have hN : X.N.Nodup := by rw [ok.N]; exact ok.nd
      have bk : BlkOk X.N X.env.scope scope (ownOf Γ.N scope) := by rw [ok.N, ok.sc]; exact blkOk_by b1
      replace ht : (if Γ.asgn x then (ixOf Γ.N x).map fun i => T.name i (Γ.M.contains x) else none) = some t := ht
      split at ht
      rotate_left
      · cases ht
      obtain ⟨i, hi, rfl⟩ := Option.map_eq_some_iff.mp ht
      have hy : X.N[i]? = some x := by rw [ok.N]; exact ixOf_at hi
      have hyl : X.env.scope.names.lookup x = some .local := by
        unfold swLc at hb
        simp only [Bool.and_eq_true] at hb
        exact eq_of_beq hb.1.1
      have ih : Ih n := cmp_snd n
      refine (ps_setLc ok.calm hN hy hyl sw (src_snd ih ok h2) bk (g := xG P t') (tt := xB P fun ρ => evTs Φ ifs' ρ) (te := xV P fun ρ => rel (ev Φ elt' ρ))
        (fun s H C cl fp => ⟨fun pins s' σ H v u Q I r ⟨P', hP, z⟩ => (tgt_snd ((ok.blk scope s _ C cl fp).pm hP) n tg t' h1).run pins s' σ H v u Q I r z⟩)
        (fun s H C cl fp => ⟨fun pins s' σ H Q I ⟨P', hP, z⟩ => (ifs_snd ih ((ok.blk scope s _ C cl fp).pm hP) b2 h3).run pins s' σ H Q I z⟩)
        (fun s H C cl fp => ⟨fun pins s' σ H Q I ⟨P', hP, z⟩ => ((ih false elt elt' ((ok.blk scope s _ C cl fp).pm hP) h4).val rfl).v.run pins s' σ H Q I z⟩)
        (set_plain b3 _)).weak fun D σ H h => ?_
      obtain ⟨O, ρ, Z, a⟩ := asg_rd h
      exact lc_rd hin ⟨O, ρ, Z, a.imp fun s ρ1 O1 H1 R1 _ q v rv => gName_of (q v rv)⟩
theorem parE_snd {names : List Str} {ts vs : List Expr} {cs : List E} {kt k2 : Nat} {pt pt2 pos : Pos} {c : S} {n : Nat} (ok : Ok X W P Γ Φ k) (hk : isFun Γ.sc.kind = true) (hsw : swapK Γ.sc ts vs = some (some names)) (hm : mapO (cmpE n Γ false) vs = some cs) (h : parE Γ names ts vs cs = some c) :
    PS X (.Assign [.Tuple ts kt pt] (.Tuple vs k2 pt2) pos) (tS P W (evS Φ c)) := by
  unfold parE at h
  split at h
  · rename_i x px y py a b ca cb
    split at h
    · rename_i hc
      simp only [Bool.and_eq_true, decide_eq_true_eq, beq_iff_eq] at hc
      obtain ⟨⟨⟨⟨⟨rfl, n1⟩, n2⟩, ne⟩, lx⟩, ly⟩ := hc
      split at h
      · rename_i i j hi hj
        cases h
        exact ps_par2D ok hk hsw hi hj lx ly ne (mapX ok (by simp [n1, n2]) hm)
      · cases h
    · cases h
  · rename_i x px y py z pz a b c' ca cb cc
    split at h
    · rename_i hc
      simp only [Bool.and_eq_true, decide_eq_true_eq, beq_iff_eq] at hc
      obtain ⟨⟨⟨⟨⟨⟨⟨⟨⟨rfl, n1⟩, n2⟩, n3⟩, ne⟩, ne2⟩, ne3⟩, lx⟩, ly⟩, lz⟩ := hc
      split at h
      · rename_i i j l hi hj hl
        cases h
        exact ps_par3D ok hk hsw hi hj hl lx ly lz ne ne2 ne3 (mapX ok (by simp [n1, n2, n3]) hm)
      · cases h
    · cases h
  · cases h
theorem each_tup {ts : List Expr} {kt : Nat} {p : Pos} {env : PySem.Env} : (assignEach [.Tuple ts kt p] env).map (·.2) = [assign (.Tuple ts kt p) env] := rfl
end
end DL
namespace DL
open PySem L2
section
variable {X : Cx} {W : WX} {P : Pm} {Γ : Ctx} {Φ : Nat → Fn} {k : Nat}
theorem nil_of {α : Type} {l : List α} (h : isNil l = true) : l = [] := by
  cases l with
  | nil => rfl
  | cons _ _ => cases h
theorem exprS_snd {n : Nat} {e : Expr} {pos : Pos} {c : S} (ok : Ok X W P Γ Φ k) (h : exprS n Γ e = some c) : PS X (.Expr e pos) (tS P W (evS Φ c)) := by
  unfold exprS at h
  split at h
  · split at h
    · cases h; exact ps_docD
    · cases h
  · split at h
    · rename_i hn
      obtain ⟨c', h1, rfl⟩ := Option.map_eq_some_iff.mp h
      exact ps_expD hn ((cmp_snd n false e c' ok h1).val rfl).pe
    · cases h
theorem retS_snd {n : Nat} {e : Expr} {pos : Pos} {c : S} (ok : Ok X W P Γ Φ k) (h : retS n Γ e = some c) : PS X (.Return (some e) pos) (tS P W (evS Φ c)) := by
  unfold retS at h
  split at h
  · rename_i x p
    split at h
    · rename_i i h1
      cases h
      rcases name_snd (p := p) (P := P) (W := W) (Φ := Φ) ok h1 with ⟨j, e, q⟩ | ⟨d, e, q⟩
      · cases e; exact ps_retoD q
      · cases e
    · rename_i d h1
      cases h
      rcases name_snd (p := p) (P := P) (W := W) (Φ := Φ) ok h1 with ⟨j, e, q⟩ | ⟨d, e, q⟩
      · cases e
      · cases e; exact ps_retD q
    · cases h
  · obtain ⟨c', h1, rfl⟩ := Option.map_eq_some_iff.mp h
    exact ps_retD ((cmp_snd n false _ c' ok h1).val rfl).pe
theorem setiS_snd {n : Nat} {x : Str} {p p2 pos : Pos} {ix e : Expr} {c : S} (ok : Ok X W P Γ Φ k) (h : setiS n Γ x ix e = some c) : PS X (.Assign [.Subscript (.Name x p) ix p2] e pos) (tS P W (evS Φ c)) := by
  unfold setiS at h
  split at h
  · cases h
  rename_i hc
  rw [Bool.not_eq_true, Bool.not_eq_false'] at hc
  simp only [Bool.and_eq_true, Bool.not_eq_true'] at hc
  split at h
  · rename_i i ci ce h1 h2 h3
    cases h
    exact ps_setiD hc.1.1.1.2 hc.1.1.1.1 (nm_of ok hc.1.2 hc.2 hc.1.1.2 h1) ((cmp_snd n false e ce ok h3).val rfl).pe ((cmp_snd n false ix ci ok h2).val rfl).pe
  · cases h
theorem asgS_snd {n : Nat} {tg e : Expr} {pos : Pos} {c : S} (ok : Ok X W P Γ Φ k) (h : asgS n Γ tg e = some c) : PS X (.Assign [tg] e pos) (tS P W (evS Φ c)) := by
  unfold asgS at h
  split at h
  · rename_i hc
    rw [Bool.and_eq_true] at hc
    split at h
    · rename_i t c' h1 h2
      cases h
      exact ps_asgD (swaps_plain hc.2) hc.1 (tgt_snd ok n tg t h1) ((cmp_snd n false e c' ok h2).val rfl).pe
    · cases h
  · cases h
theorem nameS_snd {n : Nat} {x : Str} {p : Pos} {e : Expr} {pos : Pos} {c : S} (ok : Ok X W P Γ Φ k) (h : nameS n Γ x p e = some c) : PS X (.Assign [.Name x p] e pos) (tS P W (evS Φ c)) := by
  unfold nameS at h
  split at h
  · unfold lcS at h
    split at h
    · rename_i hk
      split at h
      · rename_i t c' h1 h2
        cases h
        exact ps_asgLc ok hk h1 h2
      · cases h
    · cases h
  · exact asgS_snd ok h
theorem tupleS_snd {n : Nat} {ts : List Expr} {kt : Nat} {pt : Pos} {e : Expr} {pos : Pos} {c : S} (ok : Ok X W P Γ Φ k) (h : tupleS n Γ ts kt pt e = some c) : PS X (.Assign [.Tuple ts kt pt] e pos) (tS P W (evS Φ c)) := by
  unfold tupleS at h
  split at h
  · unfold tupS at h
    split at h
    · rename_i hk
      split at h
      · rename_i hsw
        split at h
        · rename_i ps hps
          split at h
          · rename_i hn
            split at h
            · rename_i cs h1
              split at h
              · rename_i hl
                cases h
                exact ps_parN ok hk hsw hps hl.1 hl.2 (mapX ok hn h1)
              · cases h
            · cases h
          · cases h
        · split at h
          · rename_i t c' h1 h2
            cases h
            exact (ps_asg ((cmp_snd n false _ c' ok h2).val rfl).pe (tgt_snd ok n _ t h1) rfl (swap_of (by rw [ok.sc]; exact hk) (by rw [ok.sc]; exact hsw)) rfl).weak fun D σ H h => asg_rd h
          · cases h
      · rename_i names hsw
        split at h
        · rename_i cs h1
          exact parE_snd ok hk hsw h1 h
        · cases h
      · cases h
    · cases h
  · exact asgS_snd ok h
theorem tgS_snd {n : Nat} {tg e : Expr} {pos : Pos} {c : S} (ok : Ok X W P Γ Φ k) (h : tgS n Γ tg e = some c) : PS X (.Assign [tg] e pos) (tS P W (evS Φ c)) := by
  unfold tgS at h
  split at h
  · exact nameS_snd ok h
  · exact tupleS_snd ok h
  · unfold subS at h
    split at h
    · exact setiS_snd ok h
    · cases h
  · cases h
theorem cmpS_snd : ∀ n, IhS n
  | 0 => fun _ _ _ h => by cases h
  | n + 1 => fun st c ok h => by
    have ih : Ih n := cmp_snd n
    have ihs : IhS n := cmpS_snd n
    cases st with
    | Expr e p => exact exprS_snd ok h
    | Pass p => cases h; exact ps_passD
    | Break p => cases h; exact ps_brkD
    | Continue p => cases h; exact ps_cntD
    | Return oe p =>
      cases oe with
      | none => cases h; exact ps_retnD
      | some e => exact retS_snd ok h
    | If t a b p =>
      replace h : (match cmpE n _ true t, mapO (cmpS n _) a, mapO (cmpS n _) b with
        | some ct, some ca, some cb => some (S.ite ct ca cb)
        | _, _, _ => none) = some c := h
      split at h
      · rename_i ct ca cb h1 h2 h3
        cases h
        exact ps_iteD ((ih true t ct ok h1).tst rfl) (maps_snd ihs ok h2) (maps_snd ihs ok h3)
      · cases h
    | While t b oe p =>
      replace h : (if isNil oe then match cmpE n _ true t, mapO (cmpS n _) b with
        | some ct, some cb => some (S.whl ct cb)
        | _, _ => none else none) = some c := h
      split at h
      · rename_i hn
        cases nil_of hn
        split at h
        · rename_i ct cb h1 h2
          cases h
          exact ps_whlD ok ((ih true t ct ok h1).tst rfl) (maps_snd ihs ok h2)
        · cases h
      · cases h
    | For tg it b oe p =>
      replace h : (if isDisp it || !isNil oe then none else match tgtE n _ tg, srcE (cmpE n _ false) _ tg it, mapO (cmpS n _) b with
        | some t, some (kd, src), some cb => some (S.for t kd src cb)
        | _, _, _ => none) = some c := h
      split at h
      · cases h
      rename_i hd
      simp only [Bool.or_eq_true, not_or, Bool.not_eq_true, Bool.not_eq_false'] at hd
      cases nil_of hd.2
      split at h
      · rename_i t kd src cb h1 h2 h3
        cases h
        exact ps_forD ok (src_snd ih ok h2) hd.1 (tgt_snd ok n tg t h1) (maps_snd ihs ok h3)
      · cases h
    | Assign tgs e p =>
      match tgs, h with
      | [tg], h => exact tgS_snd ok h
      | [], h => cases h
      | _ :: _ :: _, h => cases h
    | AugAssign tg o e p =>
      replace h : augS n _ tg o e = some c := h
      unfold augS at h
      split at h
      · split at h
        · rename_i ha
          split at h
          · rename_i i c' h1 h2
            cases h
            exact ps_augD ok ha h1 ((ih false e c' ok h2).val rfl).pe
          · cases h
        · cases h
      · cases h
    | Raise a b p =>
      cases h
      exact ps_never.weak fun D σ H ⟨O, ρ, Z, a⟩ => a
    | _ => cases h
end
end DL
namespace DL
open PySem L2
section
variable {G : Gx} {O O' : List Addr} {H H' : Hp}
/-! ## a def by its codes -/
theorem ios_at : ∀ {m : List Bool} {vs : List V} {b i : Nat} {a : Addr}, (i, a) ∈ iosOf m vs b → b ≤ i ∧ vs[i - b]? = some (.ref a)
  | [], _, _, _, _, h => by simp [iosOf] at h
  | true :: m, [], _, _, _, h => by simp [iosOf] at h
  | false :: m, [], _, _, _, h => by simp [iosOf] at h
  | false :: m, v :: vs, b, i, a, h => by
    obtain ⟨h1, h2⟩ := ios_at (m := m) (vs := vs) (b := b + 1) h
    refine ⟨by omega, ?_⟩
    rw [show i - b = (i - (b + 1)) + 1 by omega]
    simpa using h2
  | true :: m, v :: vs, b, i, a, h => by
    cases v with
    | ref c =>
      replace h : (i, a) ∈ (b, c) :: iosOf m vs (b + 1) := h
      rcases List.mem_cons.mp h with h | h
      · cases h
        exact ⟨Nat.le_refl _, by simp⟩
      · obtain ⟨h1, h2⟩ := ios_at (m := m) (vs := vs) (b := b + 1) h
        refine ⟨by omega, ?_⟩
        rw [show i - b = (i - (b + 1)) + 1 by omega]
        simpa using h2
    | _ => simp [iosOf] at h
theorem entry_len : ∀ {m : List Bool} {ds : List D}, (entry m ds).length = ds.length
  | _, [] => by simp [entry]
  | m, d :: ds => by simp [entry, entry_len]
theorem entry_at : ∀ {m : List Bool} {vs : List V} {ds : List D} {b i : Nat} {s : Slot}, ArgsOk G O H m vs ds → (entry m ds)[i]? = some s →
    ∃ v d, vs[i]? = some v ∧ ((s = .val d ∧ Rep G (cut H O) v d) ∨ (s = .io d ∧ ∃ a, v = .ref a ∧ (i + b, a) ∈ iosOf m vs b ∧ OwnAt G H O a d))
  | _, _, _, b, i, s, .nil, h => by simp [entry] at h
  | _, _, _, b, 0, s, .val (v := v) (d := d) r _, h => by
    simp [entry] at h
    subst h
    exact ⟨v, d, rfl, .inl ⟨rfl, r⟩⟩
  | _, _, _, b, 0, s, .io (a := a) (d := d) h1 h2 _, h => by
    simp [entry] at h
    subst h
    exact ⟨.ref a, d, rfl, .inr ⟨rfl, a, rfl, by simp [iosOf], h2⟩⟩
  | _, _, _, b, i + 1, s, .val _ rs, h => by
    obtain ⟨v, d, h1, h2⟩ := entry_at (b := b + 1) (i := i) rs (by simpa [entry] using h)
    refine ⟨v, d, by simpa using h1, h2.imp id fun ⟨q1, a, q2, q3, q4⟩ => ⟨q1, a, q2, ?_, q4⟩⟩
    rw [show i + 1 + b = i + (b + 1) by omega]
    exact q3
  | _, _, _, b, i + 1, s, .io _ _ rs, h => by
    obtain ⟨v, d, h1, h2⟩ := entry_at (b := b + 1) (i := i) rs (by simpa [entry] using h)
    refine ⟨v, d, by simpa using h1, h2.imp id fun ⟨q1, a, q2, q3, q4⟩ => ⟨q1, a, q2, ?_, q4⟩⟩
    rw [show i + 1 + b = i + (b + 1) by omega]
    exact List.mem_cons_of_mem _ q3
theorem ios_in : ∀ {m : List Bool} {vs : List V} {ds : List D} {b : Nat}, ArgsOk G O H m vs ds → ∀ p ∈ iosOf m vs b, p.2 ∈ O
  | _, _, _, b, .nil, p, h => by simp [iosOf] at h
  | _, _, _, b, .val _ rs, p, h => ios_in (b := b + 1) rs p h
  | _, _, _, b, .io h1 _ rs, p, h => by
    rcases List.mem_cons.mp h with rfl | h
    · exact h1
    · exact ios_in (b := b + 1) rs p h
theorem out_ok {Own : Addr → D → Prop} : ∀ {m : List Bool} {vs : List V} {ds : List D} {ρ : Sts} {cs : List D} {b : Nat}, ArgsOk G O H m vs ds → outIos m ρ = some cs → (∀ (i : Nat) (d : D), ρ[i]? = some (Slot.io d) → ∃ a : Addr, vs[i]? = some (V.ref a) ∧ Own a d) → Paired Own ((iosOf m vs b).map (·.2)) cs
  | _, _, _, ρ, cs, b, .nil, h, _ => by
    cases h
    exact .nil
  | _, _, _, ρ, cs, b, .val _ rs, h, k => by
    cases ρ with
    | nil => simp [outIos] at h
    | cons s ρ => exact out_ok (b := b + 1) rs (by simpa [outIos] using h) fun i d e => by simpa using k (i + 1) d (by simpa using e)
  | _, _, _, ρ, cs, b, .io (a := a) (m := m) (vs := vs) _ _ rs, h, k => by
    cases ρ with
    | nil => simp [outIos] at h
    | cons s ρ =>
      cases s with
      | io d =>
        replace h : (outIos m ρ).map (d :: ·) = some cs := h
        obtain ⟨cs', h1, rfl⟩ := Option.map_eq_some_iff.mp h
        obtain ⟨a', e, o⟩ := k 0 d rfl
        cases e
        exact .cons o (out_ok (b := b + 1) rs h1 fun i d e => by simpa using k (i + 1) d (by simpa using e))
      | val _ => simp [outIos] at h
      | own _ => simp [outIos] at h
      | emp => simp [outIos] at h
theorem pairwise_snd {l : List (Nat × Addr)} (h : (l.map (·.2)).Nodup) : ∀ p ∈ l, ∀ q ∈ l, p.2 = q.2 → p = q := by
  induction l with
  | nil => intro p hp; simp at hp
  | cons x l ih =>
    have h := List.nodup_cons.mp (show (x.2 :: l.map (·.2)).Nodup from h)
    intro p hp q hq e
    rcases List.mem_cons.mp hp with hp1 | hp1
    · rcases List.mem_cons.mp hq with hq1 | hq1
      · rw [hp1, hq1]
      · exact absurd (List.mem_map.mpr ⟨q, hq1, by rw [← e, hp1]⟩) h.1
    · rcases List.mem_cons.mp hq with hq1 | hq1
      · exact absurd (List.mem_map.mpr ⟨p, hp1, by rw [e, hq1]⟩) h.1
      · exact ih h.2 p hp1 q hq1 e
def entryPm (G : Gx) (m : List Bool) (vs : List V) (O : List Addr) (H : Hp) : Pm := ⟨G, H, iosOf m vs 0, O⟩
theorem Rel.entry {m : List Bool} {vs : List V} {ds : List D} {N : List Str} (h : ArgsOk G O H m vs ds) (nd : ((iosOf m vs 0).map (·.2)).Nodup) (od : ∀ a ∈ O, ∃ o, H a = some o ∧ Mut (some o)) (hl : m.length ≤ N.length) :
    Rel (entryPm G m vs O H) O (entry m ds ++ List.replicate (N.length - m.length) .emp) (L2.start N vs) H := by
  obtain ⟨l1, l2⟩ := h.len
  have el : (DL.entry m ds).length = vs.length := by rw [entry_len, l1, l2]
  have at_ : ∀ {i : Nat} {s : Slot}, s ≠ .emp → (DL.entry m ds ++ List.replicate (N.length - m.length) .emp)[i]? = some s → (DL.entry m ds)[i]? = some s := fun {i s} hs e => by
    by_cases hi : i < (DL.entry m ds).length
    · rw [List.getElem?_append_left hi] at e; exact e
    · rw [List.getElem?_append_right (by omega)] at e
      rw [List.getElem?_replicate] at e
      split at e
      · cases e; exact absurd rfl hs
      · cases e
  have st : ∀ {i : Nat} {v : V}, vs[i]? = some v → (L2.start N vs)[i]? = some (some v) := fun {i v} e => by
    have hi : i < vs.length := (List.getElem?_eq_some_iff.mp e).1
    unfold L2.start
    rw [List.getElem?_append_left (by simpa using hi), List.getElem?_map, e]; rfl
  refine ⟨?_, fun i d e => ?_, fun i d e => ?_, fun i d e => ?_, fun i j a s t e1 e2 _ _ => ?_, pairwise_snd nd, fun b o _ e => e, fun a h => .inl h, od, fun a h => h, fun a h' => ?_⟩
  · unfold L2.start
    simp [el, l1]
  · obtain ⟨v, d', h1, h2⟩ := entry_at (b := 0) h (at_ (by simp) e)
    rcases h2 with ⟨h2, h3⟩ | ⟨h2, _⟩
    · cases h2; exact ⟨v, st h1, h3⟩
    · cases h2
  · obtain ⟨v, d', h1, h2⟩ := entry_at (b := 0) h (at_ (by simp) e)
    rcases h2 with ⟨h2, h3⟩ | ⟨h2, _⟩ <;> cases h2
  · obtain ⟨v, d', h1, h2⟩ := entry_at (b := 0) h (at_ (by simp) e)
    rcases h2 with ⟨h2, h3⟩ | ⟨h2, a, rfl, h3, h4⟩
    · cases h2
    · cases h2; exact ⟨a, st h1, h3, h4⟩
  · obtain ⟨v, d', h1, h2⟩ := entry_at (b := 0) h (at_ (by simp) e1)
    rcases h2 with ⟨h2, h3⟩ | ⟨h2, _⟩ <;> cases h2
  · obtain ⟨p, hp, rfl⟩ := List.mem_map.mp h'
    exact ios_in h p hp
/-- what stands in the text about a def -/
structure CallEnv (P : Program) (w : World) (K : PySem.W.Frag) (mg : Str → Option Value) (base : Heap) (G : Gx) (Γ : Ctx) (Φ : Nat → Fn) (k : Nat) : Prop where
  gk : G.K = K
  bs : ∀ x, Γ.bs.contains x = true → mg x = none
  cs : ∀ x d, Γ.cs.lookup x = some d → ∃ u v, mg x = some u ∧ RelV v u ∧ ∀ H, Rep G H v d
  ds : ∀ x kvs, Γ.ds.lookup x = some kvs → ∃ a, mg x = some (.ref a) ∧ WD K w a kvs
  fs : ∀ (i : Nat) (g : FnS), Γ.fs[i]? = some g → ∃ a, mg g.name = some (.ref a) ∧ PySem.W.keepIn K (.ref a) = true ∧ G.fa g.name = some a ∧ FnG P w K mg base k a g.mask.length (spF G g.mask (Φ i))
theorem ret_ok {m : List Bool} {vs : List V} {ds : List D} {ρ : Sts} {σ : St} {cs : List D} {v : V} {s : Slot} {ro : Bool} (h : ArgsOk G O H m vs ds) (R : Rel (entryPm G m vs O H) O' ρ σ H') (r : RepR (entryPm G m vs O H) O' ρ σ H' v s) (ho : outIos m ρ = some cs) :
    Frame ((iosOf m vs 0).map (·.2)) H H' ∧ Ret G O H H' ((iosOf m vs 0).map (·.2)) cs v (if ro then s else .val s.d) := by
  refine ⟨fun b o h1 h2 => R.fr b o h1 h2, ?_⟩
  have cutLe' : ∀ {O2 O1 : List Addr}, (∀ a ∈ O2, a ∈ O1) → ∀ b o, cut H' O1 b = some o → cut H' O2 b = some o := fun {O2 O1} hO b o e => by
    obtain ⟨h1, h2⟩ := cut_some.mp e
    exact cut_some.mpr ⟨fun z => h1 (hO b z), h2⟩
  have cutLe : ∀ {O1 : List Addr}, (∀ a ∈ O, a ∈ O1) → ∀ b o, cut H' O1 b = some o → cut H' O b = some o := fun {O1} hO => cutLe' hO
  -- what was lent
  have lent : ∀ {O1 O2 : List Addr} {ρ : Sts} {σ : St}, Rel (entryPm G m vs O H) O1 ρ σ H' → outIos m ρ = some cs → (∀ b o, cut H' O1 b = some o → cut H' O2 b = some o) → Paired (fun a c => OwnAt G H' O2 a c) ((iosOf m vs 0).map (·.2)) cs := fun {O1 O2 ρ σ} R1 ho k => out_ok h ho fun i d e => by
    obtain ⟨a, h1, h2, h3⟩ := R1.io i d e
    obtain ⟨_, h4⟩ := ios_at h2
    exact ⟨a, by simpa using h4, h3.mono (fun _ q => q) k⟩
  cases s with
  | val d =>
    have e : (if ro = true then Slot.val d else .val (Slot.val d).d) = .val d := by cases ro <;> rfl
    rw [e]
    exact ⟨Rep.mono (cutLe R.exs) r, lent R ho (cutLe R.exs)⟩
  | own d =>
    cases ro with
    | true =>
      rw [if_pos rfl]
      obtain ⟨a, rfl, h1, h2, h3, h4⟩ := r
      have k : ∀ b o, cut H' O' b = some o → cut H' (a :: O) b = some o := cutLe' (fun b z => by
        rcases List.mem_cons.mp z with rfl | z
        · exact h1
        · exact R.exs b z)
      exact ⟨a, rfl, (R.ofr a h1).resolve_left h2, h4.mono (fun _ q => q) k, lent R ho k⟩
    | false =>
      rw [if_neg Bool.false_ne_true]
      obtain ⟨O2, R2, x2, r2⟩ := RepR.rel R r
      exact ⟨Rep.mono (cutLe R2.exs) r2, lent R2 ho (cutLe R2.exs)⟩
  | emp => exact r.elim
  | io _ => exact r.elim
/-- THE RULE: a def keeps what its codes promise -/
theorem fng_snd {P : Program} {w : World} {K : PySem.W.Frag} {mg : Str → Option Value} {base : Heap} {x qual : Str} {st : Stmt} {f : Addr} {fd : FuncData} {ps : List Str} {k : Nat} {Γ : Ctx} {Φ : Nat → Fn} {n : Nat} {d : Def}
    (F : Fun K x qual st f fd) (S : FnScope Γ.N ps (defScope st)) (hb : Binds K fd ps []) (hsc : Γ.sc = defScope st) (hm : d.m.length = ps.length) (hn : d.n = Γ.N.length) (hc : mapO (cmpS n Γ) (defBody st) = some d.body) (C : CallEnv P w K mg base G Γ Φ k) :
    FnG P w K mg base (k + 1) f ps.length (spF G d.m (runD Φ d)) := by
  refine fng_of F S hb (fun vs H Q E ⟨O, ds, h, _⟩ => by rw [h.len.1]; exact hm) fun cdv A outer s H vs Q E hg room ⟨O, ds, h, nd, od, z⟩ => ?_
  have tk : Takes (cxOf (L2.CX P w) P w K mg base Γ.N qual (defScope st) f cdv A outer s H E) (fun cls d _ H => E cls d H) := takes_of rfl rfl rfl rfl
  have po := passes_of (X := cxOf (L2.CX P w) P w K mg base Γ.N qual (defScope st) f cdv A outer s H E) rfl
  have ok : Ok (cxOf (L2.CX P w) P w K mg base Γ.N qual (defScope st) f cdv A outer s H E) (fun cls d _ H => E cls d H) (entryPm G d.m vs O H) Γ Φ k :=
    ⟨rfl, S.nd, hsc.symm, fun _ _ => rfl, rfl, hg, room, C.gk, tk, po, C.bs, C.cs, C.ds, fun i g e => ⟨C.fs i g e⟩⟩
  refine ⟨_, maps_snd (cmpS_snd n) ok hc, ?_⟩
  have hl : d.m.length ≤ Γ.N.length := by
    rw [hm]
    have := congrArg List.length S.pre
    rw [List.length_take] at this
    omega
  have R := Rel.entry (N := Γ.N) h nd od hl
  refine ⟨O, _, R, ?_⟩
  have hlen : ds.length = d.m.length := h.len.2
  unfold runD at z
  rw [if_pos hlen, hn] at z
  revert z
  cases evSs Φ d.body (DL.entry d.m ds ++ List.replicate (Γ.N.length - d.m.length) .emp) with
  | bad => exact fun z => z
  | exc c x ρ =>
    intro z O' σ' H' cv dd R' e' ex
    dsimp only at z
    cases ho : outIos d.m ρ with
    | none => rw [ho] at z; exact z.elim
    | some cs =>
      rw [ho] at z
      have cutLe : ∀ b o, cut H' O' b = some o → cut H' O b = some o := fun b o e => by
        obtain ⟨h1, h2⟩ := cut_some.mp e
        exact cut_some.mpr ⟨fun z => h1 (R'.exs b z), h2⟩
      refine z cv dd H' (fun b o h1 h2 => R'.fr b o h1 h2) (out_ok h ho fun i d e => ?_) ?_
      · obtain ⟨a, h1, h2, h3⟩ := R'.io i d e
        obtain ⟨_, h4⟩ := ios_at h2
        exact ⟨a, by simpa using h4, h3.mono (fun _ q => q) cutLe⟩
      · obtain ⟨C', fl, dd', v, h1, h2, h3, h4, h5⟩ := ex
        exact ⟨C', fl, dd', v, h1, h2, h3, h4, h5.mono cutLe⟩
  | ok o =>
    have fin : ∀ {s : Slot} {ρ : Sts} {O' : List Addr} {σ' : St} {H' : Hp} {v : V}, (match outR d.ro d.m s ρ with
      | .ok (s, cs) => ∀ v H', Frame ((iosOf d.m vs 0).map (·.2)) H H' → Ret G O H H' ((iosOf d.m vs 0).map (·.2)) cs v s → Q v H'
      | .exc c x cs => ∀ cv dd H', Frame ((iosOf d.m vs 0).map (·.2)) H H' → Paired (fun a c => OwnAt G H' O a c) ((iosOf d.m vs 0).map (·.2)) cs → ExcAt G O H' c x cv dd → E cv dd H'
      | .bad => False) → Rel (entryPm G d.m vs O H) O' ρ σ' H' → RepR (entryPm G d.m vs O H) O' ρ σ' H' v s → Q v H' := fun {s ρ O' σ' H' v} z R' r => by
      unfold outR at z
      cases ho : outIos d.m ρ with
      | none => rw [ho] at z; exact z.elim
      | some cs =>
        rw [ho] at z
        obtain ⟨q1, q2⟩ := ret_ok (ro := d.ro) h R' r ho
        exact z v H' q1 q2
    cases o with
    | nx ρ => exact fun z O' σ' H' R' _ => fin (s := .val .non) (v := .non) z R' .non
    | rt s ρ => exact fun z O' σ' H' v R' _ r => fin z R' r
    | bk ρ => exact fun z => z.elim
    | ct ρ => exact fun z => z.elim
end
/-! ## the whole text -/
abbrev Tab := List (FnS × Def)
def phi (tab : Tab) : Nat → Nat → Fn
  | 0, _ => fun _ => .bad
  | k + 1, j => match tab[j]? with
    | some (_, d) => runD (phi tab k) d
    | none => fun _ => .bad
end DL
namespace DL
open PySem PySem.Spec PyProof.Rows L2
/-! ## the law's own call -/
/-- the script alone is tracked, and only where the text has not written it -/
def scHp (K : PySem.W.Frag) (a : Addr) (o : Obj) (ns : List Int) : Hp := fun b => if b = a ∧ K.lookup a = none then some (.frz o (.lst (ns.map V.int))) else none
theorem scHp_some {K : PySem.W.Frag} {a b : Addr} {o : Obj} {ns : List Int} {u : HO} (h : scHp K a o ns b = some u) : b = a ∧ K.lookup a = none ∧ u = .frz o (.lst (ns.map V.int)) := by
  unfold scHp at h
  split at h
  · rename_i c; exact ⟨c.1, c.2, (Option.some.inj h).symm⟩
  · cases h
theorem sc_vals : ∀ {vs : List Value} {ns : List Int}, IntsAre vs ns → Vals (ns.map V.int) vs
  | _, _, .nil => .nil
  | _, _, .cons n t h => .cons ⟨t, rfl⟩ (sc_vals h)
theorem reps_ns {G : Gx} {H : Hp} : ∀ ns : List Int, Reps G H (ns.map V.int) (ns.map D.int)
  | [] => .nil
  | n :: r => .cons (.int n) (reps_ns r)
theorem law_g {P : Program} {w : World} {K : PySem.W.Frag} {mg mb : Str → Option Value} {k : Nat} {f a : Addr} {G : Gx} {F : Fn} {t : Shared} {vs : List Value} {ns : List Int}
    (hK : G.K = K) (inK : K.In t.heap) (gn : t.heap.Ns mainGlobals mg) (bn : t.heap.Ns builtinsNs mb) (bb : ∀ y : Str, y ≠ "__name__" → mb y = bootBuiltins y) (nol : t.heap.NoLimit) (nog : t.gens = #[])
    (scr : t.heap.get? a = some { cls := .type "list", data := .seq vs.toArray }) (ii : IntsAre vs ns) (small : ns.length ≤ sizeLine) (room : Room k callerA)
    (prom : ∀ base : Heap, K.In base → base.Ns mainGlobals mg → FnG P w K mg base k f 1 (spF G [false] F)) (ans : F [.rol (ns.map .int)] = .ok (.val (.bl true), [])) :
    codeAny (model P w) callerA (.call (.ref f) ⟨[.ref a], []⟩) (fun r t' => r = .ok (.ret (.bool true)) ∧ OldK t.heap t'.heap ∧ t'.os = t.os ∧ AllBare t'.gens) t := by
  have rv := sc_vals ii
  have lv := ii.length
  obtain ⟨H, eH⟩ : ∃ H, H = scHp K a { cls := .type "list", data := .seq vs.toArray } ns := ⟨_, rfl⟩
  have only : ∀ {b : Addr} {u : HO}, H b = some u → b = a ∧ K.lookup a = none ∧ u = .frz { cls := .type "list", data := .seq vs.toArray } (.lst (ns.map V.int)) := fun {b u} e => scHp_some (eH ▸ e)
  have stays : ∀ {b : Addr} {o : Obj}, t.heap.get? b = some o → (b = a → K.lookup a ≠ none) → (hidT t.heap H).get? b = some o := fun {b o} e hb => hidT_get e (by
    cases q : H b with
    | none => rfl
    | some u =>
      obtain ⟨h1, h2, _⟩ := only q
      exact absurd h2 (hb h1))
  have nsOf : ∀ {b : Addr} {m : Str → Option Value}, t.heap.Ns b m → (hidT t.heap H).Ns b m := fun {b m} ⟨o, es, ep, e, d, r⟩ => ⟨o, es, ep, stays e (fun hb => by
    subst hb
    rw [scr] at e
    cases e
    cases d), d, r⟩
  have inB : K.In (hidT t.heap H) := fun b o e => stays (inK b o e) fun hb z => by
    subst hb
    rw [e] at z; cases z
  have md : Mod K mg (hidT t.heap H) := ⟨inB, nsOf gn, ⟨mb, nsOf bn, bb⟩, let ⟨mc, h1, h2⟩ := nol; ⟨mc, nsOf h1, h2⟩⟩
  have hok : HOk P w H t.heap := fun b u e => by
    obtain ⟨rfl, _, rfl⟩ := only e
    exact ⟨scr, by rw [List.length_map]; exact small, vs, _, rv, scr⟩
  have env0 : Env0 P w K mg (hidT t.heap H) callerA [] t H := ⟨rfl, md, fun b o e => of_hidT e, Nat.le_of_eq (hidT_size _ _), trivial, fun b hb => (by cases hb), hok, .of_eq nog⟩
  have sq : SqL K H a (ns.map V.int) := by
    cases q : K.lookup a with
    | none => exact .inl (.inr ⟨_, by rw [eH]; exact if_pos ⟨rfl, q⟩⟩)
    | some o =>
      have e := inK a o q
      rw [scr] at e
      cases e
      exact .inr ⟨_, vs.toArray, _, q, rfl, rfl, rfl, by rw [List.size_toArray, lv]; exact small, by simpa using rv⟩
  have prem : spF G [false] F [.ref a] H (fun v _ => v = .bl true) fun _ _ _ => False := by
    refine ⟨[], [.rol (ns.map .int)], .val (.rol (by rw [hK]; exact SqL.mono (fun b o e => cut_some.mpr ⟨by simp, e⟩) sq) (reps_ns ns)) .nil, by simp [iosOf], fun a h => (by cases h), ?_⟩
    rw [ans]
    intro v H' _ r
    cases r.1
    rfl
  refine codeAny_mono ((prom _ inB (nsOf gn)).go callerA [] t H [.ref a] [.ref a] _ _ rfl room env0 (.cons rfl .nil) prem) fun r t' hr => ?_
  match r, hr with
  | .error e, ⟨_, _, _, _, _, _, _, _, _, _, _, _, z⟩ => exact z.elim
  | .ok .next, hr => exact hr.elim
  | .ok .brk, hr => exact hr.elim
  | .ok .cont, hr => exact hr.elim
  | .ok (.ret u), ⟨v, H', os, bare, un, hok', rr, q⟩ =>
    have q' : v = .bl true := q
    subst q'
    obtain rfl : u = Value.bool true := rr
    refine ⟨rfl, OldK.of_keep fun b o e => ?_, os, bare⟩
    cases q : H b with
    | none => exact un.keep b o e q (by intro z; cases z) (by simp)
    | some x =>
      obtain ⟨_, _, rfl⟩ := only q
      have z2 := un.frzs b _ _ q
      obtain ⟨e1, _⟩ := hok b _ q
      obtain ⟨e2, _⟩ := hok' b _ z2
      rw [e] at e1; cases e1
      exact e2
/-- the goal that k_head leaves -/
theorem walk_g {l : PySem.W.OpenLaw} {n k : Nat} {q : Program} {loose : List Str} {XP : (Str → Option Value) → Heap → Prop} {YP : World → Heap → Prop} {d : DefRec} {K : Params → PySem.W.Frag}
    (most : l.most = some n) (small : n ≤ sizeLine) (nodef : d.params.defaults = []) (room : Room k callerA) (hY : ∀ (w : World) (h : Heap), YP w h → (K w.params).In h)
    (prom : ∀ (w : World) (mg : Str → Option Value) (fa : Addr) (h : Heap), (K w.params).In h → h.Ns mainGlobals mg → mg d.name = some (.ref fa) → ∃ (G : Gx) (F : Fn), G.K = K w.params ∧
      (∀ base : Heap, (K w.params).In base → base.Ns mainGlobals mg → FnG l.prog w (K w.params) mg base k fa 1 (spF G [false] F)) ∧ ∀ ns : List Int, ns.length ≤ n → F [.rol (ns.map .int)] = .ok (.val (.bl true), [])) :
    PySem.W.WalkO q loose XP YP l.row.toRowW d [] (fun f vs => PySem.call f vs) := by
  refine Att.attach_call most nodef fun w s₀ s₁ mg mb fa o pm cd doc a vs ns T Y ho hd hcd hmg hobj hints hlen hg => ?_
  have inK := hY w _ Y
  obtain ⟨G, F, hK, pr, ans⟩ := prom w mg fa _ inK T.T.g hmg
  exact law_g hK inK T.T.g T.T.b T.T.builtins T.T.nolimit hg hobj hints (Nat.le_trans hlen small) room pr (ans ns hlen)
end DL
namespace DL
open PySem PySem.Spec PyProof.Rows L2
/-! ## the whole text -/
/-- a def of the text where the top has put it -/
structure DefAt (K : PySem.W.Frag) (x : Str) (st : Stmt) (ps : List Str) : Prop where
  ex : ∃ f fd, PySem.W.nsIn K mainGlobals x = some (some (.ref f)) ∧ Fun K x x st f fd ∧ Binds K fd ps [] ∧ PySem.W.keepIn K (.ref f) = true
theorem DefAt.by {K : PySem.W.Frag} {x : Str} {st : Stmt} {ps : List Str} {f : Addr} {oc : Value} {od an : Option Addr} {osl : Array (Option Value)} {kV doc pm cdv ct : Value}
    (bn : ∀ (kV doc pm : Value) (an : Option Addr) (cdv ct : Value) (us : List Value), us.length = ps.length → bindArgs (PySem.W.fnOf x x (defArgs st) (defBody st) (defScope st) .none kV doc pm an cdv ct) ⟨us, []⟩ = pure (ps.zip us))
    (a : PySem.W.nsIn K mainGlobals x = some (some (.ref f))) (l : K.lookup f = some ⟨oc, od, .func (PySem.W.fnOf x x (defArgs st) (defBody st) (defScope st) .none kV doc pm an cdv ct), osl⟩)
    (c : PySem.W.codeIn K cdv x = true) (k : PySem.W.keepIn K (.ref f) = true) : DefAt K x st ps :=
  ⟨f, _, a, fun_mk l c k, (fun_mk l c k).binds bn, k⟩
structure DictAt (K : PySem.W.Frag) (w : World) (x : Str) (kvs : List (Str × Int)) : Prop where
  ex : ∃ a, PySem.W.nsIn K mainGlobals x = some (some (.ref a)) ∧ WD K w a kvs
theorem DictAt.by {K : PySem.W.Frag} {w : World} {x : Str} {kvs : List (Str × Int)} {a : Addr} {es : Array DictEntry} {n : Nat} (h : PySem.W.nsIn K mainGlobals x = some (some (.ref a))) (l : K.lookup a = some ⟨.type "dict", none, .dict es n, #[]⟩) (low : (a == sysModules) = false)
    (k : PySem.W.KeysLit w.params es.toList) (r : EntRel es.toList kvs) : DictAt K w x kvs := ⟨a, h, ⟨es, n, ⟨l, k, low⟩, r⟩⟩
structure IntAt (K : PySem.W.Frag) (x : Str) (i : Int) : Prop where
  ex : ∃ t, PySem.W.nsIn K mainGlobals x = some (some (.int i t))
theorem IntAt.by {K : PySem.W.Frag} {x : Str} {i : Int} {t : Tok} (h : PySem.W.nsIn K mainGlobals x = some (some (.int i t))) : IntAt K x i := ⟨t, h⟩
/-- what the text says of the j-th def -/
structure Stat (K : PySem.W.Frag) (fs : List FnS) (cs : List (Str × D)) (bs : List Str) (ds : List (Str × List (Str × Int))) (g : FnS) (d : Def) : Prop where
  ex : ∃ st ps Γ n, DefAt K g.name st ps ∧ FnScope Γ.N ps (defScope st) ∧ Γ.sc = defScope st ∧ g.mask.length = ps.length ∧ d.m = g.mask ∧ d.n = Γ.N.length ∧ mapO (cmpS n Γ) (defBody st) = some d.body ∧ Γ.fs = fs ∧ Γ.cs = cs ∧ Γ.bs = bs ∧ Γ.ds = ds
theorem Stat.by {K : PySem.W.Frag} {fs : List FnS} {cs : List (Str × D)} {bs : List Str} {ds : List (Str × List (Str × Int))} {g : FnS} {d : Def} {st : Stmt} {ps : List Str} {Γ : DL.Ctx} {n : Nat}
    (h : DefAt K g.name st ps) (S : FnScope Γ.N ps (defScope st)) (h1 : Γ.sc = defScope st) (h2 : g.mask.length = ps.length) (h3 : d.m = g.mask) (h4 : d.n = Γ.N.length) (hc : mapO (cmpS n Γ) (defBody st) = some d.body) (h5 : Γ.fs = fs) (h6 : Γ.cs = cs) (h7 : Γ.bs = bs) (h8 : Γ.ds = ds) : Stat K fs cs bs ds g d :=
  ⟨st, ps, Γ, n, h, S, h1, h2, h3, h4, hc, h5, h6, h7, h8⟩
def gxOf (K : PySem.W.Frag) (mg : Str → Option Value) : Gx := ⟨K, fun x => match mg x with
  | some (.ref a) => some a
  | _ => none, fun _ => none⟩
inductive Stats (K : PySem.W.Frag) (fs : List FnS) (cs : List (Str × D)) (bs : List Str) (ds : List (Str × List (Str × Int))) : Tab → Prop
  | nil : Stats K fs cs bs ds []
  | cons {g : FnS} {d : Def} {r : Tab} : Stat K fs cs bs ds g d → Stats K fs cs bs ds r → Stats K fs cs bs ds ((g, d) :: r)
theorem Stats.at_ {K : PySem.W.Frag} {fs : List FnS} {cs : List (Str × D)} {bs : List Str} {ds : List (Str × List (Str × Int))} : ∀ {t : Tab} {j : Nat} {p : FnS × Def}, Stats K fs cs bs ds t → t[j]? = some p → Stat K fs cs bs ds p.1 p.2
  | _, _, _, .nil, h => by simp at h
  | _, 0, _, .cons s _, h => by simp at h; subst h; exact s
  | _, j + 1, p, .cons _ r, h => Stats.at_ (j := j) (p := p) r (by simpa using h)
theorem prog_snd {P : Program} {w : World} {K : PySem.W.Frag} {mg : Str → Option Value} {base : Heap} {tab : Tab} {cs : List (Str × D)} {bs : List Str} {ds : List (Str × List (Str × Int))} (inK : K.In base) (gn : base.Ns mainGlobals mg)
    (st : Stats K (tab.map (·.1)) cs bs ds tab) (hb : ∀ x, bs.contains x = true → PySem.W.nsIn K mainGlobals x = some none) (hc : ∀ x d, cs.lookup x = some d → ∃ i, d = .int i ∧ IntAt K x i) (hd : ∀ x kvs, ds.lookup x = some kvs → DictAt K w x kvs) :
    ∀ (k j : Nat) (g : FnS) (d : Def), tab[j]? = some (g, d) → ∃ a, mg g.name = some (.ref a) ∧ PySem.W.keepIn K (.ref a) = true ∧ (gxOf K mg).fa g.name = some a ∧ FnG P w K mg base k a g.mask.length (spF (gxOf K mg) g.mask (phi tab k j))
  | 0, j, g, d, h => by
    obtain ⟨s, ps, Γ, n, ⟨f, fd, q1, q2, q3, q4⟩, _⟩ := (st.at_ h).ex
    have e := PySem.W.mg_of inK gn q1
    refine ⟨f, e, q4, by unfold gxOf; simp only [e], ⟨fun vs H Q E z => ?_, fun A o s H us vs Q E _ _ _ _ z => ?_⟩⟩
    · obtain ⟨O, ds, _, _, _, z⟩ := z; exact z.elim
    · obtain ⟨O, ds, _, _, _, z⟩ := z; exact z.elim
  | k + 1, j, g, d, h => by
    obtain ⟨s, ps, Γ, n, ⟨f, fd, q1, q2, q3, q4⟩, S, h1, h2, h3, h4, hcd, h5, h6, h7, h8⟩ := (st.at_ h).ex
    dsimp only at h2 h3 q1
    have e := PySem.W.mg_of inK gn q1
    have C : CallEnv P w K mg base (gxOf K mg) Γ (phi tab k) k := by
      refine ⟨rfl, fun x hx => ?_, fun x d hx => ?_, fun x kvs hx => ?_, fun i g' hi => ?_⟩
      · rw [h7] at hx; exact PySem.W.mg_none_of inK gn (hb x hx)
      · rw [h6] at hx
        obtain ⟨i, rfl, t, ht⟩ := hc x d hx
        exact ⟨_, .int i, PySem.W.mg_of inK gn ht, ⟨t, rfl⟩, fun H => .int i⟩
      · rw [h8] at hx
        obtain ⟨a, ha, hw⟩ := (hd x kvs hx).ex
        exact ⟨a, PySem.W.mg_of inK gn ha, hw⟩
      · rw [h5, List.getElem?_map] at hi
        obtain ⟨⟨g2, d2⟩, e2, e3⟩ := Option.map_eq_some_iff.mp hi
        cases e3
        exact prog_snd inK gn st hb hc hd k i g2 d2 e2
    have F := fng_snd q2 S q3 h1 (by rw [h3]; exact h2) h4 hcd C
    refine ⟨f, e, q4, by unfold gxOf; simp only [e], ?_⟩
    have hp : phi tab (k + 1) j = runD (phi tab k) d := by
      show (match tab[j]? with
        | some (_, d) => runD (phi tab k) d
        | none => fun _ => .bad) = _
      rw [h]
    rw [hp, ← h3, h3, h2, ← h3]
    exact F
/-- THE END: the law by its table; j the law's def -/
theorem law_end {l : PySem.W.OpenLaw} {n k j : Nat} {q : Program} {loose : List Str} {XP : (Str → Option Value) → Heap → Prop} {YP : World → Heap → Prop} {d : DefRec} {K : Params → PySem.W.Frag} {tab : Tab} {g : FnS} {dd : Def} {cs : List (Str × D)} {bs : List Str} {ds : List (Str × List (Str × Int))}
    (most : l.most = some n) (small : n ≤ sizeLine) (nodef : d.params.defaults = []) (room : Room k callerA) (hY : ∀ (w : World) (h : Heap), YP w h → (K w.params).In h) (hj : tab[j]? = some (g, dd)) (hn : g.name = d.name) (hm : g.mask = [false])
    (st : ∀ w : World, Stats (K w.params) (tab.map (·.1)) cs bs ds tab) (hb : ∀ (w : World) x, bs.contains x = true → PySem.W.nsIn (K w.params) mainGlobals x = some none) (hc : ∀ (w : World) x d, cs.lookup x = some d → ∃ i, d = .int i ∧ IntAt (K w.params) x i) (hd : ∀ (w : World) x kvs, ds.lookup x = some kvs → DictAt (K w.params) w x kvs)
    (ans : ∀ ns : List Int, ns.length ≤ n → phi tab k j [.rol (ns.map .int)] = .ok (.val (.bl true), [])) :
    PySem.W.WalkO q loose XP YP l.row.toRowW d [] (fun f vs => PySem.call f vs) := by
  refine walk_g most small nodef room hY fun w mg fa h inK gn hmg => ⟨gxOf (K w.params) mg, phi tab k j, rfl, fun base inB gb => ?_, ans⟩
  obtain ⟨a, h1, h2, h3, F⟩ := prog_snd (P := l.prog) (w := w) inB gb (st w) (hb w) (hc w) (hd w) k j g dd hj
  rw [hn, hmg] at h1
  cases h1
  rw [hm] at F
  exact F
end DL
namespace DL
open PySem L2
/-! ## running codes on a written state -/
section
variable {Φ : Nat → Fn} {s : Slot} {ρ : Sts} {es : List E} {a b c : E} {i : Nat}
@[simp] theorem ev_lit {d : D} {ρ : Sts} : ev Φ (.lit d) ρ = .ok (.val d, ρ) := Eq.trans rfl rfl
@[simp] theorem ev_var : ev Φ (.var i) (s :: ρ) = getv (s :: ρ) i := Eq.trans rfl rfl
@[simp] theorem ev_op {o : Op} : ev Φ (.op o es) (s :: ρ) = (evBs Φ es (s :: ρ)).bind (opR o) := Eq.trans rfl rfl
@[simp] theorem ev_mk {o : Mk} : ev Φ (.mk o es) (s :: ρ) = (evVs Φ es (s :: ρ)).bind fun p => (R.ofO (mkf o p.1)).map fun s => (s, p.2) := Eq.trans rfl rfl
@[simp] theorem ev_and : ev Φ (.and a b) (s :: ρ) = (rel (ev Φ a (s :: ρ))).bind fun p => match truth p.1 with
    | some true => (rel (ev Φ b p.2)).map fun q => (.val q.1, q.2)
    | some false => .ok (.val p.1, p.2)
    | none => .bad := Eq.trans rfl rfl
@[simp] theorem ev_or : ev Φ (.or a b) (s :: ρ) = (rel (ev Φ a (s :: ρ))).bind fun p => match truth p.1 with
    | some true => .ok (.val p.1, p.2)
    | some false => (rel (ev Φ b p.2)).map fun q => (.val q.1, q.2)
    | none => .bad := Eq.trans rfl rfl
@[simp] theorem ev_ife : ev Φ (.ife a b c) (s :: ρ) = (tru (rel (ev Φ a (s :: ρ)))).bind fun p => if p.1 then (rel (ev Φ b p.2)).map fun q => (.val q.1, q.2) else (rel (ev Φ c p.2)).map fun q => (.val q.1, q.2) := Eq.trans rfl rfl
@[simp] theorem ev_chain {o o2 : CmpOp} : ev Φ (.chain a o b o2 c) (s :: ρ) = (rel (ev Φ a (s :: ρ))).bind fun p => (rel (ev Φ b p.2)).bind fun q => match cmpf o p.1 q.1 with
    | some true => (rel (ev Φ c q.2)).bind fun r => (R.ofO (cmpf o2 q.1 r.1)).map fun x => (.val (.bl x), r.2)
    | some false => .ok (.val (.bl false), q.2)
    | none => .bad := Eq.trans rfl rfl
@[simp] theorem ev_call {f : Nat} {m : List Bool} : ev Φ (.call f m es) (s :: ρ) = (evCs Φ m es (s :: ρ)).bind (callR Φ f) := Eq.trans rfl rfl
@[simp] theorem ev_mu {m : Mu} : ev Φ (.mu m i es) (s :: ρ) = if isOwn (s :: ρ) i then (evVs Φ es (s :: ρ)).bind (muR m i) else .bad := Eq.trans rfl rfl
theorem ev_lc {vs : List Nat} {t : T} {k : Sk} {src ifs : List E} {elt : E} : ev Φ (.lc vs t k src ifs elt) (s :: ρ) = (evVs Φ src (s :: ρ)).bind fun p => match srcf k p.1 with
    | some items => if ownAny p.2 vs then .bad else
        (noExc (lcLoop vs t (fun ρ => evTs Φ ifs ρ) (fun ρ => rel (ev Φ elt ρ)) items [] (wipeE p.2 vs))).map fun q => (.own (.lst q.1), backE p.2 q.2 vs)
    | none => .bad := Eq.trans rfl rfl
@[simp] theorem evVs_nil {ρ : Sts} : evVs Φ [] ρ = .ok ([], ρ) := Eq.trans rfl rfl
@[simp] theorem evVs_cons : evVs Φ (a :: es) (s :: ρ) = (rel (ev Φ a (s :: ρ))).bind fun p => (evVs Φ es p.2).map fun q => (p.1 :: q.1, q.2) := Eq.trans rfl rfl
@[simp] theorem evPs_nil {ρ : Sts} : evPs Φ [] ρ = .ok ([], ρ) := Eq.trans rfl rfl
@[simp] theorem evPs_cons : evPs Φ (a :: es) (s :: ρ) = (ev Φ a (s :: ρ)).bind fun p => (evPs Φ es p.2).map fun q => (p.1 :: q.1, q.2) := Eq.trans rfl rfl
@[simp] theorem evBs_nil {ρ : Sts} : evBs Φ [] ρ = .ok ([], ρ) := Eq.trans rfl rfl
@[simp] theorem evBs_cons : evBs Φ (a :: es) (s :: ρ) = (bw a (s :: ρ) (rel (ev Φ a (s :: ρ)))).bind fun p => (evBs Φ es p.2).map fun q => (p.1 :: q.1, q.2) := Eq.trans rfl rfl
@[simp] theorem evCs_nil {m : List Bool} {ρ : Sts} : evCs Φ m [] ρ = .ok ([], ρ) := by cases m <;> rfl
@[simp] theorem evCs_cons {m : List Bool} : evCs Φ m (a :: es) (s :: ρ) = (cw (m.headD false) a (s :: ρ) (rel (ev Φ a (s :: ρ)))).bind fun p => (evCs Φ m.tail es p.2).map fun q => (p.1 :: q.1, q.2) := by cases m <;> rfl
@[simp] theorem evTs_nil {ρ : Sts} : evTs Φ [] ρ = .ok (true, ρ) := Eq.trans rfl rfl
@[simp] theorem evTs_cons : evTs Φ (a :: es) (s :: ρ) = (tru (rel (ev Φ a (s :: ρ)))).bind fun p => if p.1 then evTs Φ es p.2 else .ok (false, p.2) := Eq.trans rfl rfl
@[simp] theorem bw_var {r : R Sts (D × Sts)} : bw (.var i) (s :: ρ) r = if isOwn (s :: ρ) i then .ok (.ref i, s :: ρ) else r.map fun p => (.dat p.1, p.2) := Eq.trans rfl rfl
theorem bw_ne {r : R Sts (D × Sts)} {ρ : Sts} (h : ∀ i, a ≠ .var i) : bw a ρ r = r.map fun p => (.dat p.1, p.2) := by
  cases a with
  | var i => exact absurd rfl (h i)
  | _ => rfl
@[simp] theorem bw_lit {r : R Sts (D × Sts)} {d : D} {ρ : Sts} : bw (.lit d) ρ r = r.map fun p => (.dat p.1, p.2) := Eq.trans rfl rfl
@[simp] theorem bw_op {r : R Sts (D × Sts)} {o : Op} {ρ : Sts} : bw (.op o es) ρ r = r.map fun p => (.dat p.1, p.2) := Eq.trans rfl rfl
@[simp] theorem bw_mk {r : R Sts (D × Sts)} {o : Mk} {ρ : Sts} : bw (.mk o es) ρ r = r.map fun p => (.dat p.1, p.2) := Eq.trans rfl rfl
@[simp] theorem bw_and {r : R Sts (D × Sts)} {ρ : Sts} : bw (.and a b) ρ r = r.map fun p => (.dat p.1, p.2) := Eq.trans rfl rfl
@[simp] theorem bw_or {r : R Sts (D × Sts)} {ρ : Sts} : bw (.or a b) ρ r = r.map fun p => (.dat p.1, p.2) := Eq.trans rfl rfl
@[simp] theorem bw_ife {r : R Sts (D × Sts)} {ρ : Sts} : bw (.ife a b c) ρ r = r.map fun p => (.dat p.1, p.2) := Eq.trans rfl rfl
@[simp] theorem bw_chain {r : R Sts (D × Sts)} {ρ : Sts} {o o2 : CmpOp} : bw (.chain a o b o2 c) ρ r = r.map fun p => (.dat p.1, p.2) := Eq.trans rfl rfl
@[simp] theorem bw_call {r : R Sts (D × Sts)} {ρ : Sts} {f : Nat} {m : List Bool} : bw (.call f m es) ρ r = r.map fun p => (.dat p.1, p.2) := Eq.trans rfl rfl
@[simp] theorem bw_mu {r : R Sts (D × Sts)} {ρ : Sts} {m : Mu} : bw (.mu m i es) ρ r = r.map fun p => (.dat p.1, p.2) := Eq.trans rfl rfl
@[simp] theorem bw_lc {r : R Sts (D × Sts)} {ρ : Sts} {vs : List Nat} {t : T} {k : Sk} {src ifs : List E} {elt : E} : bw (.lc vs t k src ifs elt) ρ r = r.map fun p => (.dat p.1, p.2) := Eq.trans rfl rfl
@[simp] theorem cw_false {r : R Sts (D × Sts)} {ρ : Sts} : cw false a ρ r = r.map fun p => (.dat p.1, p.2) := Eq.trans rfl rfl
@[simp] theorem cw_var {r : R Sts (D × Sts)} : cw true (.var i) (s :: ρ) r = if isOwn (s :: ρ) i then .ok (.ref i, s :: ρ) else .bad := Eq.trans rfl rfl
@[simp] theorem rel_ok {p : Slot × Sts} : rel (.ok p) = .ok (p.1.d, p.2) := Eq.trans rfl rfl
@[simp] theorem rel_bad : rel .bad = .bad := Eq.trans rfl rfl
@[simp] theorem rel_exc {x : Str} {d : D} {ρ : Sts} : rel (.exc x d ρ) = .exc x d ρ := Eq.trans rfl rfl
@[simp] theorem tru_ok {p : D × Sts} : tru (.ok p) = match truth p.1 with
  | some b => .ok (b, p.2)
  | none => .bad := Eq.trans rfl rfl
@[simp] theorem tru_bad : tru .bad = .bad := Eq.trans rfl rfl
@[simp] theorem getv_val0 {d : D} : getv (.val d :: ρ) 0 = .ok (.val d, .val d :: ρ) := Eq.trans rfl rfl
@[simp] theorem getv_own0 {d : D} : getv (.own d :: ρ) 0 = .ok (.val d, .val d :: ρ) := Eq.trans rfl rfl
@[simp] theorem getv_emp0 : getv (.emp :: ρ) 0 = .bad := Eq.trans rfl rfl
@[simp] theorem getv_io0 {d : D} : getv (.io d :: ρ) 0 = .bad := Eq.trans rfl rfl
@[simp] theorem getv_succ : getv (s :: ρ) (i + 1) = (getv ρ i).map fun p => (p.1, s :: p.2) := by
  unfold getv
  rw [List.getElem?_cons_succ]
  cases h : ρ[i]? with
  | none => rfl
  | some t => cases t <;> simp
@[simp] theorem isOwn_val0 {d : D} : isOwn (.val d :: ρ) 0 = false := Eq.trans rfl rfl
@[simp] theorem isOwn_own0 {d : D} : isOwn (.own d :: ρ) 0 = true := Eq.trans rfl rfl
@[simp] theorem isOwn_io0 {d : D} : isOwn (.io d :: ρ) 0 = true := Eq.trans rfl rfl
@[simp] theorem isOwn_emp0 : isOwn (.emp :: ρ) 0 = false := Eq.trans rfl rfl
@[simp] theorem isOwn_succ : isOwn (s :: ρ) (i + 1) = isOwn ρ i := Eq.trans rfl rfl
@[simp] theorem opR_cons {o : Op} {as : List Arg} : opR o (as, s :: ρ) = match gets (s :: ρ) as with
  | some ds => (R.ofO (opf o ds)).map fun t => (t, s :: ρ)
  | none => .bad := Eq.trans rfl rfl
@[simp] theorem gets_nil : gets ρ [] = some [] := Eq.trans rfl rfl
@[simp] theorem gets_dat {d : D} {as : List Arg} : gets ρ (.dat d :: as) = (gets ρ as).map (d :: ·) := by
  show (match (Arg.dat d).get ρ, gets ρ as with
    | some d, some ds => some (d :: ds)
    | _, _ => none) = _
  cases gets ρ as <;> rfl
@[simp] theorem gets_ref {as : List Arg} : gets (s :: ρ) (.ref i :: as) = match ((s :: ρ)[i]?).bind Slot.mu? with
  | some d => (gets (s :: ρ) as).map (d :: ·)
  | none => none := by
  show (match (Arg.ref i).get (s :: ρ), gets (s :: ρ) as with
    | some d, some ds => some (d :: ds)
    | _, _ => none) = _
  show (match ((s :: ρ)[i]?).bind Slot.mu?, gets (s :: ρ) as with
    | some d, some ds => some (d :: ds)
    | _, _ => none) = _
  cases ((s :: ρ)[i]?).bind Slot.mu? with
  | none => rfl
  | some d => cases gets (s :: ρ) as <;> rfl
@[simp] theorem mu_own {d : D} : (Slot.own d).mu? = some d := Eq.trans rfl rfl
@[simp] theorem mu_io {d : D} : (Slot.io d).mu? = some d := Eq.trans rfl rfl
@[simp] theorem mu_val {d : D} : (Slot.val d).mu? = none := Eq.trans rfl rfl
@[simp] theorem callR_cons {f : Nat} {as : List Arg} : callR Φ f (as, s :: ρ) = match gets (s :: ρ) as with
  | some ds => if (refs as).Nodup then (match Φ f ds with
      | .ok (t, cs) => (R.ofO (setIos as cs (s :: ρ))).map fun ρ => (t, ρ)
      | .exc c x cs => (R.ofO (setIos as cs (s :: ρ))).bind fun ρ => .exc c x ρ
      | .bad => .bad) else .bad
  | none => .bad := Eq.trans rfl rfl
@[simp] theorem refs_nil : refs [] = [] := Eq.trans rfl rfl
@[simp] theorem refs_dat {d : D} {as : List Arg} : refs (.dat d :: as) = refs as := Eq.trans rfl rfl
@[simp] theorem refs_ref {as : List Arg} : refs (.ref i :: as) = i :: refs as := Eq.trans rfl rfl
@[simp] theorem setIos_nil : setIos [] [] ρ = some ρ := Eq.trans rfl rfl
@[simp] theorem setIos_dat {d : D} {as : List Arg} {cs : List D} : setIos (.dat d :: as) cs ρ = setIos as cs ρ := by cases cs <;> rfl
@[simp] theorem setIos_ref {as : List Arg} {x : D} {cs : List D} : setIos (.ref i :: as) (x :: cs) ρ = setIos as cs (putE ρ i x) := Eq.trans rfl rfl
@[simp] theorem putE_own0 {d x : D} : putE (.own d :: ρ) 0 x = .own x :: ρ := Eq.trans rfl rfl
@[simp] theorem putE_io0 {d x : D} : putE (.io d :: ρ) 0 x = .io x :: ρ := Eq.trans rfl rfl
@[simp] theorem putE_succ {x : D} : putE (s :: ρ) (i + 1) x = s :: putE ρ i x := Eq.trans rfl rfl
@[simp] theorem muR_cons {m : Mu} {ds : List D} : muR m i (ds, s :: ρ) = match ((s :: ρ)[i]?).bind Slot.mu? with
  | some d => match muf m d ds with
    | some (r, d') => .ok (.val r, putE (s :: ρ) i d')
    | none => .bad
  | none => .bad := Eq.trans rfl rfl
@[simp] theorem truth_bl {b : Bool} : truth (.bl b) = some b := Eq.trans rfl rfl
@[simp] theorem truth_int {i : Int} : truth (.int i) = some (i != 0) := Eq.trans rfl rfl
@[simp] theorem truth_non : truth .non = some false := Eq.trans rfl rfl
@[simp] theorem truth_lst {xs : List D} : truth (.lst xs) = some (!xs.isEmpty) := Eq.trans rfl rfl
@[simp] theorem truth_tup {xs : List D} : truth (.tup xs) = some (!xs.isEmpty) := Eq.trans rfl rfl
/-! statements -/
@[simp] theorem evSs_nil {ρ : Sts} : evSs Φ [] ρ = .ok (.nx ρ) := Eq.trans rfl rfl
@[simp] theorem evSs_cons {st : S} {r : List S} : evSs Φ (st :: r) (s :: ρ) = thenR (evS Φ st (s :: ρ)) fun ρ1 => evSs Φ r ρ1 := Eq.trans rfl rfl
@[simp] theorem thenR_nx {ρ : Sts} {f : Sts → R Sts Out} : thenR (.ok (.nx ρ)) f = f ρ := Eq.trans rfl rfl
@[simp] theorem thenR_rt {ρ : Sts} {t : Slot} {f : Sts → R Sts Out} : thenR (.ok (.rt t ρ)) f = .ok (.rt t ρ) := Eq.trans rfl rfl
@[simp] theorem thenR_bk {ρ : Sts} {f : Sts → R Sts Out} : thenR (.ok (.bk ρ)) f = .ok (.bk ρ) := Eq.trans rfl rfl
@[simp] theorem thenR_ct {ρ : Sts} {f : Sts → R Sts Out} : thenR (.ok (.ct ρ)) f = .ok (.ct ρ) := Eq.trans rfl rfl
@[simp] theorem thenR_bad {f : Sts → R Sts Out} : thenR .bad f = .bad := Eq.trans rfl rfl
@[simp] theorem evS_asg {t : T} : evS Φ (.asg t a) (s :: ρ) = (ev Φ a (s :: ρ)).bind fun p => (R.ofO (assignT t p.1 p.2)).map .nx := Eq.trans rfl rfl
@[simp] theorem evS_par {ts : List (Nat × Bool)} : evS Φ (.par ts es) (s :: ρ) = (evPs Φ es (s :: ρ)).bind fun p => (R.ofO (assignPs ts p.1 p.2)).map .nx := Eq.trans rfl rfl
@[simp] theorem evS_seti : evS Φ (.seti i a b) (s :: ρ) = (rel (ev Φ b (s :: ρ))).bind fun x => if isOwn x.2 i then (rel (ev Φ a x.2)).bind fun y => match (y.2[i]?).bind Slot.mu? with
    | some d => (R.ofO (setf d y.1 x.1)).map fun d' => .nx (putE y.2 i d')
    | none => .bad
    else .bad := Eq.trans rfl rfl
@[simp] theorem evS_aug {o : Operator} : evS Φ (.aug i o a) (s :: ρ) = match (s :: ρ)[i]? with
    | some (.val d) => (rel (ev Φ a (s :: ρ))).bind fun x => (R.ofO (augf o d x.1)).map fun d' => .nx (x.2.set i (.val d'))
    | _ => .bad := Eq.trans rfl rfl
@[simp] theorem evS_ret : evS Φ (.ret a) (s :: ρ) = (ev Φ a (s :: ρ)).map fun p => .rt p.1 p.2 := Eq.trans rfl rfl
@[simp] theorem evS_retn {ρ : Sts} : evS Φ .retn ρ = .ok (.rt (.val .non) ρ) := Eq.trans rfl rfl
@[simp] theorem evS_reto : evS Φ (.reto i) (s :: ρ) = match (s :: ρ)[i]? with
    | some (.own d) => .ok (.rt (.own d) ((s :: ρ).set i .emp))
    | some (.val d) => .ok (.rt (.val d) (s :: ρ))
    | _ => .bad := Eq.trans rfl rfl
@[simp] theorem evS_exp : evS Φ (.exp a) (s :: ρ) = (ev Φ a (s :: ρ)).map fun p => .nx p.2 := Eq.trans rfl rfl
@[simp] theorem evS_pass {ρ : Sts} : evS Φ .pass ρ = .ok (.nx ρ) := Eq.trans rfl rfl
@[simp] theorem evS_brk {ρ : Sts} : evS Φ .brk ρ = .ok (.bk ρ) := Eq.trans rfl rfl
@[simp] theorem evS_cnt {ρ : Sts} : evS Φ .cnt ρ = .ok (.ct ρ) := Eq.trans rfl rfl
@[simp] theorem evS_ite {x y : List S} : evS Φ (.ite a x y) (s :: ρ) = (tru (rel (ev Φ a (s :: ρ)))).bind fun p => if p.1 then evSs Φ x p.2 else evSs Φ y p.2 := Eq.trans rfl rfl
theorem evS_whl {x : List S} : evS Φ (.whl a x) (s :: ρ) = whlR (fun ρ => tru (rel (ev Φ a ρ))) (fun ρ => evSs Φ x ρ) fuel (s :: ρ) := Eq.trans rfl rfl
theorem evS_for {t : T} {k : Sk} {src : List E} {x : List S} : evS Φ (.for t k src x) (s :: ρ) = (evVs Φ src (s :: ρ)).bind fun p => match srcf k p.1 with
    | some items => forR (fun x' ρ => (R.ofO (assignT t (.val x') ρ)).bind fun ρ1 => evSs Φ x ρ1) items p.2
    | none => .bad := Eq.trans rfl rfl
@[simp] theorem assign_name {o : Bool} {t : Slot} : assignT (.name i o) t (s :: ρ) = if i < (s :: ρ).length then some ((s :: ρ).set i (if o then t else .val t.d)) else none := Eq.trans rfl rfl
@[simp] theorem assignPs_nil {ρ : Sts} : assignPs [] [] ρ = some ρ := Eq.trans rfl rfl
@[simp] theorem assignPs_cons {o : Bool} {ts : List (Nat × Bool)} {t : Slot} {ss : List Slot} : assignPs ((i, o) :: ts) (t :: ss) (s :: ρ) = (assignT (.name i o) t (s :: ρ)).bind fun ρ1 => assignPs ts ss ρ1 := Eq.trans rfl rfl
@[simp] theorem assign_tup {ts : List T} {xs : List D} : assignT (.tup ts) (.val (.tup xs)) (s :: ρ) = if xs.length = ts.length then assignTs ts xs (s :: ρ) else none := Eq.trans rfl rfl
@[simp] theorem assign_tupO {ts : List T} {xs : List D} : assignT (.tup ts) (.own (.lst xs)) (s :: ρ) = if xs.length = ts.length then assignTs ts xs (s :: ρ) else none := Eq.trans rfl rfl
@[simp] theorem assign_tupL {ts : List T} {xs : List D} : assignT (.tup ts) (.val (.lst xs)) (s :: ρ) = if xs.length = ts.length then assignTs ts xs (s :: ρ) else none := Eq.trans rfl rfl
@[simp] theorem assignTs_nil {ρ : Sts} : assignTs [] [] ρ = some ρ := Eq.trans rfl rfl
@[simp] theorem assignTs_cons {t : T} {ts : List T} {x : D} {xs : List D} : assignTs (t :: ts) (x :: xs) (s :: ρ) = (assignT t (.val x) (s :: ρ)).bind fun ρ1 => assignTs ts xs ρ1 := Eq.trans rfl rfl
@[simp] theorem forR_nil {st : D → Sts → R Sts Out} {ρ : Sts} : forR st [] ρ = .ok (.nx ρ) := Eq.trans rfl rfl
@[simp] theorem lc_nil {vs : List Nat} {t : T} {f : Sts → R Sts (Bool × Sts)} {g : Sts → R Sts (D × Sts)} {acc : List D} {ρ : Sts} : lcLoop vs t f g [] acc ρ = .ok (acc, ρ) := Eq.trans rfl rfl
@[simp] theorem noExc_ok {α : Type} {x : α} : noExc (.ok x : R Sts α) = .ok x := Eq.trans rfl rfl
theorem runD_of {d : Def} {ds : List D} (h : ds.length = d.m.length) : runD Φ d ds = match evSs Φ d.body (entry d.m ds ++ List.replicate (d.n - d.m.length) .emp) with
    | .ok (.nx ρ) => outR d.ro d.m (.val .non) ρ
    | .ok (.rt s ρ) => outR d.ro d.m s ρ
    | .ok _ => .bad
    | .exc c x ρ => (R.ofO (outIos d.m ρ)).bind fun cs => .exc c x cs
    | .bad => .bad := by unfold runD; exact if_pos h
@[simp] theorem entry_nil {m : List Bool} : entry m [] = [] := by cases m <;> rfl
@[simp] theorem entry_cons {m : List Bool} {d : D} {ds : List D} : entry m (d :: ds) = (if m.headD false then Slot.io d else Slot.val d) :: entry m.tail ds := by cases m <;> rfl
@[simp] theorem outR_def {ro : Bool} {m : List Bool} {t : Slot} {ρ : Sts} : outR ro m t ρ = (R.ofO (outIos m ρ)).map fun cs => ((if ro then t else .val t.d), cs) := Eq.trans rfl rfl
@[simp] theorem outIos_nil {ρ : Sts} : outIos [] ρ = some [] := Eq.trans rfl rfl
@[simp] theorem outIos_f {m : List Bool} : outIos (false :: m) (s :: ρ) = outIos m ρ := Eq.trans rfl rfl
@[simp] theorem outIos_t {m : List Bool} {d : D} : outIos (true :: m) (.io d :: ρ) = (outIos m ρ).map (d :: ·) := Eq.trans rfl rfl
end
end DL
namespace DL
open PySem L2
/-! ## places in lists -/
theorem ixN_nat {n j : Nat} (h : j < n) : ixN n (j : Int) = some j := by
  unfold ixN
  rw [if_pos (by omega), if_pos (by omega)]; simp
theorem atI_of {α : Type} {xs : List α} {i : Int} {j : Nat} {x : α} (e : i = (j : Int)) (h : xs[j]? = some x) : atI xs i = some x := by
  subst e; exact atI_nat h
@[simp] theorem atI_0 {α : Type} {x : α} {r : List α} : atI (x :: r) 0 = some x := atI_of (j := 0) rfl rfl
@[simp] theorem atI_1 {α : Type} {x y : α} {r : List α} : atI (x :: y :: r) 1 = some y := atI_of (j := 1) rfl rfl
@[simp] theorem atI_2 {α : Type} {x y z : α} {r : List α} : atI (x :: y :: z :: r) 2 = some z := atI_of (j := 2) rfl rfl
@[simp] theorem atI_3 {α : Type} {x y z w : α} {r : List α} : atI (x :: y :: z :: w :: r) 3 = some w := atI_of (j := 3) rfl rfl
@[simp] theorem ixN_0 {n : Nat} : ixN (n + 1) 0 = some 0 := by
  have := ixN_nat (n := n + 1) (j := 0) (by omega)
  simpa using this
@[simp] theorem ixN_1 {n : Nat} : ixN (n + 1 + 1) 1 = some 1 := ixN_nat (j := 1) (by omega)
@[simp] theorem ixN_2 {n : Nat} : ixN (n + 1 + 1 + 1) 2 = some 2 := ixN_nat (j := 2) (by omega)
@[simp] theorem ixN_3 {n : Nat} : ixN (n + 1 + 1 + 1 + 1) 3 = some 3 := ixN_nat (j := 3) (by omega)
theorem atI_list {α : Type} {xs : List α} {i : Int} (h0 : 0 ≤ i) (h1 : i < xs.length) : ∃ x, atI xs i = some x ∧ xs[i.toNat]? = some x := by
  have hl : i.toNat < xs.length := by omega
  exact ⟨xs[i.toNat], atI_of (j := i.toNat) (by omega) (by simp [hl]), by simp [hl]⟩
/-! ## comparisons of small data -/
@[simp] theorem okd_int {i : Int} : (D.int i).okd = true := by
  unfold D.okd; simp [D.pure, D.py, SeqAt.shaped, PyData.canLay0, PyData.depth]
@[simp] theorem okd_bl {b : Bool} : (D.bl b).okd = true := by
  unfold D.okd; simp [D.pure, D.py, SeqAt.shaped, PyData.canLay0, PyData.depth]
@[simp] theorem okd_non : (D.non).okd = true := by
  unfold D.okd; simp [D.pure, D.py, SeqAt.shaped, PyData.canLay0, PyData.depth]
theorem okd_str {s : Str} : (D.str s).okd = PyData.strOk s := by
  unfold D.okd; simp [D.pure, D.py, SeqAt.shaped, PyData.canLay0, PyData.depth]
@[simp] theorem eqv_int {i j : Int} : (D.int i).eqv (.int j) = (i == j) := Eq.trans rfl rfl
@[simp] theorem eqv_str {i j : Str} : (D.str i).eqv (.str j) = (i == j) := Eq.trans rfl rfl
@[simp] theorem cmp_eqI {i j : Int} : cmpf .Eq (.int i) (.int j) = some (decide (i = j)) := by
  simp only [cmpf, okd_int, eqv_int, Bool.and_self, if_true, Option.some.injEq]
  by_cases h : i = j <;> simp [h]
@[simp] theorem cmp_neI {i j : Int} : cmpf .NotEq (.int i) (.int j) = some (!decide (i = j)) := by
  simp only [cmpf, okd_int, eqv_int, Bool.and_self, if_true, Option.some.injEq]
  by_cases h : i = j <;> simp [h]
@[simp] theorem cmp_eqS {i j : Str} : cmpf .Eq (.str i) (.str j) = some (decide (i = j)) := Eq.trans rfl rfl
@[simp] theorem cmp_neS {i j : Str} : cmpf .NotEq (.str i) (.str j) = some (!decide (i = j)) := Eq.trans rfl rfl
@[simp] theorem cmp_lt {i j : Int} : cmpf .Lt (.int i) (.int j) = some (decide (i < j)) := Eq.trans rfl rfl
@[simp] theorem cmp_le {i j : Int} : cmpf .LtE (.int i) (.int j) = some (decide (i ≤ j)) := Eq.trans rfl rfl
@[simp] theorem cmp_gt {i j : Int} : cmpf .Gt (.int i) (.int j) = some (decide (j < i)) := Eq.trans rfl rfl
@[simp] theorem cmp_ge {i j : Int} : cmpf .GtE (.int i) (.int j) = some (decide (j ≤ i)) := Eq.trans rfl rfl
@[simp] theorem opf_cmp {o : CmpOp} {a b : D} : opf (.cmp o) [a, b] = b1 (cmpf o a b) := Eq.trans rfl rfl
@[simp] theorem b1_some' {b : Bool} : b1 (some b) = some (.val (.bl b)) := Eq.trans rfl rfl
@[simp] theorem opf_ixL {xs : List D} {i : Int} : opf .ix [.lst xs, .int i] = (atI xs i).map .val := Eq.trans rfl rfl
@[simp] theorem opf_ixT {xs : List D} {i : Int} : opf .ix [.tup xs, .int i] = (atI xs i).map .val := Eq.trans rfl rfl
@[simp] theorem opf_lenL {xs : List D} : opf .len [.lst xs] = some (.val (.int xs.length)) := Eq.trans rfl rfl
@[simp] theorem opf_lenT {xs : List D} : opf .len [.tup xs] = some (.val (.int xs.length)) := Eq.trans rfl rfl
@[simp] theorem opf_neg {i : Int} : opf .neg [.int i] = some (.val (.int (-i))) := Eq.trans rfl rfl
@[simp] theorem opf_int {i : Int} : opf .int [.int i] = some (.val (.int i)) := Eq.trans rfl rfl
@[simp] theorem opf_ck {i : Int} : opf .ck [.int i] = some (.val (.int i)) := Eq.trans rfl rfl
@[simp] theorem opf_abs {i : Int} : opf .abs [.int i] = some (.val (.int (if i < 0 then -i else i))) := Eq.trans rfl rfl
@[simp] theorem opf_bin {o : Operator} {a b : D} : opf (.bin o) [a, b] = binf o a b := Eq.trans rfl rfl
@[simp] theorem bin_add {i j : Int} : binf .Add (.int i) (.int j) = some (.val (.int (i + j))) := Eq.trans rfl rfl
@[simp] theorem bin_sub {i j : Int} : binf .Sub (.int i) (.int j) = some (.val (.int (i - j))) := Eq.trans rfl rfl
@[simp] theorem setf_l {xs : List D} {i : Int} {v : D} : setf (.lst xs) (.int i) v = (ixN xs.length i).map fun j => .lst (xs.set j v) := Eq.trans rfl rfl
/-! ## the law's draws -/
def drawB : List S := [(.ite (.and (.op (.cmp .Eq) [(.op .ix [(.var 0), (.lit (.int 1))]), (.lit (.int 0))]) (.op (.cmp .GtE) [(.op .ix [(.var 0), (.lit (.int 2))]), (.op .len [(.op .ix [(.var 0), (.lit (.int 0))])])])) [(.seti 0 (.lit (.int 3)) (.op (.bin .Mod) [(.op .int [(.op (.bin .Add) [(.op (.bin .Mult) [(.op .ix [(.var 0), (.lit (.int 3))]), (.lit (.int 48271))]), (.lit (.int 69621))])]), (.lit (.int 2147483629))])), (.ret (.op (.bin .Mod) [(.op .int [(.op (.bin .FloorDiv) [(.op .ix [(.var 0), (.lit (.int 3))]), (.lit (.int 13))])]), (.var 1)]))] []),
  (.ite (.op (.cmp .Eq) [(.op .ix [(.var 0), (.lit (.int 1))]), (.lit (.int 0))]) [(.seti 0 (.lit (.int 1)) (.op .abs [(.op .ix [(.op .ix [(.var 0), (.lit (.int 0))]), (.op .ix [(.var 0), (.lit (.int 2))])])])), (.seti 0 (.lit (.int 2)) (.op (.bin .Add) [(.op .ix [(.var 0), (.lit (.int 2))]), (.lit (.int 1))]))] []),
  (.asg (.name 2 false) (.op (.bin .Mod) [(.op .int [(.op .ix [(.var 0), (.lit (.int 1))])]), (.var 1)])),
  (.seti 0 (.lit (.int 1)) (.op (.bin .FloorDiv) [(.op .ix [(.var 0), (.lit (.int 1))]), (.var 1)])),
  (.reto 2)]
theorem midI_of {m : Int} (h : m.natAbs < 2 ^ 64) : midI m = true := decide_eq_true (Nat.lt_trans h (by decide))
theorem divOk_of {m : Int} (h : 0 < m) (h2 : m < 1073741824) : divOk m = true := by
  unfold divOk
  rw [midI_of (Nat.lt_of_lt_of_le (show m.natAbs < 1073741824 by omega) (by decide)), Bool.and_true]
  exact decide_eq_true (by omega)
theorem mulOk_r {i j : Int} (h : smallI j = true) : mulOk i j = true := by
  unfold mulOk
  rw [h, Bool.or_true, Bool.true_or]
theorem mulOk_l {i j : Int} (h : smallI i = true) : mulOk i j = true := by
  unfold mulOk
  rw [h, Bool.true_or, Bool.true_or]
structure IsSt (d : D) : Prop where
  ex : ∃ (l : List Int) (a p s : Int), d = .lst [.lst (l.map .int), .int a, .int p, .int s] ∧ 0 ≤ p
theorem draw_ok {Φ : Nat → Fn} {ro : Bool} {d : D} {m : Int} (hm : 0 < m) (hm2 : m < 1073741824) (h : IsSt d) : ∃ v d', runD Φ ⟨[true, false], 3, ro, drawB⟩ [d, .int m] = .ok (.val (.int v), [d']) ∧ 0 ≤ v ∧ v < m ∧ IsSt d' := by
  obtain ⟨l, a, p, s, rfl, hp⟩ := h
  have hdiv : divOk m = true := divOk_of (by omega) (by omega)
  have hsm : ∀ x : Int, binf .Mult (.int x) (.int 48271) = some (.val (.int (x * 48271))) := fun x => by
    exact if_pos (mulOk_r (by decide))
  have hmod : ∀ x : Int, binf .Mod (.int x) (.int 2147483629) = some (.val (.int (x.fmod 2147483629))) := fun x => rfl
  have hmm : ∀ x : Int, binf .Mod (.int x) (.int m) = some (.val (.int (x.fmod m))) := fun x => if_pos (by omega)
  have hdm : ∀ x : Int, binf .FloorDiv (.int x) (.int m) = some (.val (.int (x.fdiv m))) := fun x => if_pos hdiv
  have hd13 : ∀ x : Int, binf .FloorDiv (.int x) (.int 13) = some (.val (.int (x.fdiv 13))) := fun x => (if_pos (show divOk 13 = true by decide) : (if divOk 13 = true then some (Slot.val (.int (x.fdiv 13))) else none) = _)
  have lo : ∀ x : Int, 0 ≤ x.fmod m := fun x => Int.fmod_nonneg_of_pos _ hm
  have hi : ∀ x : Int, x.fmod m < m := fun x => Int.fmod_lt_of_pos _ hm
  rw [runD_of rfl]
  by_cases ha : a = 0
  · subst ha
    by_cases hl : (l.length : Int) ≤ p
    · refine ⟨_, _, by simp [drawB, hl, hsm, hmod, hmm, hd13]; first | exact ⟨rfl, rfl⟩ | exact rfl, lo _, hi _, ⟨l, 0, p, _, rfl, hp⟩⟩
    · obtain ⟨x, h1, h2⟩ := atI_list (xs := l.map D.int) hp (by simpa using hl)
      rw [List.getElem?_map] at h2
      obtain ⟨y, h3, rfl⟩ := Option.map_eq_some_iff.mp h2
      refine ⟨_, _, by simp [drawB, hl, hmm, hdm, h1]; first | exact ⟨rfl, rfl⟩ | exact rfl, lo _, hi _, ⟨l, _, p + 1, s, rfl, by omega⟩⟩
  · refine ⟨_, _, by simp [drawB, ha, hmm, hdm]; first | exact ⟨rfl, rfl⟩ | exact rfl, lo _, hi _, ⟨l, _, p, s, rfl, hp⟩⟩
/-- some[_law_draw(state, len(some))] -/
def pickB (j : Nat) : List S := [(.ret (.op .ix [(.var 1), (.call j [true, false] [(.var 0), (.op .len [(.var 1)])])]))]
theorem pick_ok {Φ : Nat → Fn} {j : Nat} {ro : Bool} {d : D} {xs : List D} (hΦ : Φ j = runD Φ ⟨[true, false], 3, ro, drawB⟩ ∨ ∃ Φ', Φ j = runD Φ' ⟨[true, false], 3, ro, drawB⟩) (h0 : xs ≠ []) (h1 : xs.length < 1073741824) (h : IsSt d) :
    ∃ x d', runD Φ ⟨[true, false], 2, false, pickB j⟩ [d, .lst xs] = .ok (.val x, [d']) ∧ x ∈ xs ∧ IsSt d' := by
  have hp : 0 < xs.length := List.length_pos_iff.mpr h0
  obtain ⟨v, d', e, lo, hi, st⟩ : ∃ v d', Φ j [d, .int xs.length] = .ok (.val (.int v), [d']) ∧ 0 ≤ v ∧ v < xs.length ∧ IsSt d' := by
    rcases hΦ with e | ⟨Φ', e⟩
    · rw [e]; exact draw_ok (by omega) (by omega) h
    · rw [e]; exact draw_ok (by omega) (by omega) h
  obtain ⟨x, h1, h2⟩ := atI_list (xs := xs) lo hi
  refine ⟨x, d', ?_, List.mem_of_getElem? h2, st⟩
  rw [runD_of rfl]
  simp [pickB, e, h1]
/-- the state at the start -/
def startB : List S := [(.asg (.name 1 false) (.lit (.int 7))),
  (.for (.name 2 false) .it [(.var 0)] [(.asg (.name 1 false) (.op (.bin .Add) [(.op (.bin .Mod) [(.op .int [(.op (.bin .Add) [(.op (.bin .Mult) [(.var 1), (.lit (.int 48271))]), (.var 2)])]), (.lit (.int 2147483629))]), (.lit (.int 1))]))]),
  (.ret (.mk .lst [(.op .list [(.var 0)]), (.lit (.int 0)), (.lit (.int 0)), (.var 1)]))]
theorem start_ok {Φ : Nat → Fn} {l : List Int} : ∃ d', runD Φ ⟨[false], 3, true, startB⟩ [.rol (l.map .int)] = .ok (.own d', []) ∧ IsSt d' := by
  have hsm : ∀ x : Int, binf .Mult (.int x) (.int 48271) = some (.val (.int (x * 48271))) := fun x => by
    exact if_pos (mulOk_r (by decide))
  have hmod : ∀ x : Int, binf .Mod (.int x) (.int 2147483629) = some (.val (.int (x.fmod 2147483629))) := fun x => rfl
  have loop : ∀ (l' : List Int) (s0 : Int) (t0 : Slot), (t0 = .emp ∨ ∃ z, t0 = .val z) → ∃ s1 t1, forR (fun x' ρ => (R.ofO (assignT (.name 2 false) (.val x') ρ)).bind fun ρ1 => evSs Φ [(.asg (.name 1 false) (.op (.bin .Add) [(.op (.bin .Mod) [(.op .int [(.op (.bin .Add) [(.op (.bin .Mult) [(.var 1), (.lit (.int 48271))]), (.var 2)])]), (.lit (.int 2147483629))]), (.lit (.int 1))]))] ρ1) (l'.map .int) [.val (.rol (l.map .int)), .val (.int s0), t0] = .ok (.nx [.val (.rol (l.map .int)), .val (.int s1), t1]) := by
    intro l'
    induction l' with
    | nil => intro s0 t0 _; exact ⟨s0, t0, rfl⟩
    | cons x l' ih =>
      intro s0 t0 h0
      obtain ⟨s1, t1, e⟩ := ih ((s0 * 48271 + x).fmod 2147483629 + 1) (.val (.int x)) (.inr ⟨_, rfl⟩)
      refine ⟨s1, t1, ?_⟩
      rw [← e]
      simp [forR, hsm, hmod]
  obtain ⟨s1, t1, e⟩ := loop l 7 .emp (.inl rfl)
  refine ⟨.lst [.lst (l.map .int), .int 0, .int 0, .int s1], ?_, l, 0, 0, s1, rfl, by omega⟩
  rw [runD_of rfl]
  have e2 : evS Φ (.for (.name 2 false) .it [(.var 0)] [(.asg (.name 1 false) (.op (.bin .Add) [(.op (.bin .Mod) [(.op .int [(.op (.bin .Add) [(.op (.bin .Mult) [(.var 1), (.lit (.int 48271))]), (.var 2)])]), (.lit (.int 2147483629))]), (.lit (.int 1))]))]) [.val (.rol (l.map .int)), .val (.int 7), .emp] = .ok (.nx [.val (.rol (l.map .int)), .val (.int s1), t1]) := e
  simp [startB, e2, opf, itemsD, mkf, Line]
/-! ## the same, and shown the same -/
mutual
theorem eqv_self : ∀ d : PyData, d.canLay0 = true → PyData.eqv d d = true
  | .none, _ => rfl
  | .bool b, _ => by simp [PyData.eqv]
  | .int i, _ => by simp [PyData.eqv]
  | .str x, _ => by simp [PyData.eqv]
  | .list xs, h => by
    rw [PyData.eqv]
    exact eqvs_self xs (by simpa [PyData.canLay0] using h)
  | .tuple xs, h => by
    rw [PyData.eqv]
    exact eqvs_self xs (by simpa [PyData.canLay0] using h)
  | .dict _, h => by simp [PyData.canLay0] at h
theorem eqvs_self : ∀ xs : List PyData, PyData.canLayAll0 xs = true → PyData.eqvAll xs xs = true
  | [], _ => rfl
  | x :: xs, h => by
    have h' : x.canLay0 = true ∧ PyData.canLayAll0 xs = true := by simpa [PyData.canLayAll0] using h
    rw [PyData.eqvAll, eqv_self x h'.1, eqvs_self xs h'.2]; rfl
end
theorem reprOk_of {d : D} (h : reprOk d = true) : d.okd = true := by
  unfold reprOk at h
  simp only [Bool.and_eq_true] at h
  exact h.1.1
theorem eqv_okd {d : D} (h : d.okd = true) : d.eqv d = true := by
  unfold D.okd at h
  rw [Bool.and_eq_true] at h
  exact eqv_self _ (SeqAt.canLay_of_shaped h.2)
def sameB : List S := [(.ret (.and (.op (.cmp .Eq) [(.var 0), (.var 1)]) (.op (.cmp .Eq) [(.op .repr [(.var 0)]), (.op .repr [(.var 1)])])))]
theorem cmp_same {d : D} (h : d.okd = true) : cmpf .Eq d d = some true := by
  have gen : (if (d.okd && d.okd) = true then some (d.eqv d) else none) = some true := by
    rw [h, eqv_okd h]; rfl
  cases d with
  | str s => show some (decide (s = s)) = some true; simp
  | _ => exact gen
theorem same_ok {Φ : Nat → Fn} {d : D} (h : reprOk d = true) : runD Φ ⟨[false, false], 2, false, sameB⟩ [d, d] = .ok (.val (.bl true), []) := by
  have h1 := cmp_same (reprOk_of h)
  have h2 : opf .repr [d] = some (.val (.str d.py.shown)) := if_pos h
  rw [runD_of rfl]
  simp [sameB, h1, h2]
end DL
namespace DL
open PySem L2
/-! ## how long a text shows it -/
mutual
def wid : PyData → Nat
  | .none => 4
  | .bool _ => 5
  | .int _ => 21
  | .str x => 10 * x.length + 2
  | .list xs => wids xs + 3
  | .tuple xs => wids xs + 3
  | .dict _ => 0
def wids : List PyData → Nat
  | [] => 0
  | x :: xs => wid x + 2 + wids xs
end
mutual
def nice : PyData → Bool
  | .none => true
  | .bool _ => true
  | .int i => decide (i.natAbs < 10 ^ 20)
  | .str x => PyData.strOk x
  | .list xs => nices xs
  | .tuple xs => nices xs
  | .dict _ => false
def nices : List PyData → Bool
  | [] => true
  | x :: xs => nice x && nices xs
end
mutual
theorem nice_lay : ∀ d : PyData, nice d = true → d.canLay0 = true
  | .none, _ => rfl
  | .bool _, _ => rfl
  | .int _, _ => rfl
  | .str x, h => by simpa [PyData.canLay0, nice] using h
  | .list xs, h => by
    rw [PyData.canLay0]; exact nices_lay xs (by simpa [nice] using h)
  | .tuple xs, h => by
    rw [PyData.canLay0]; exact nices_lay xs (by simpa [nice] using h)
  | .dict _, h => by simp [nice] at h
theorem nices_lay : ∀ xs : List PyData, nices xs = true → PyData.canLayAll0 xs = true
  | [], _ => rfl
  | x :: xs, h => by
    have h' : nice x = true ∧ nices xs = true := by simpa [nices] using h
    rw [PyData.canLayAll0, nice_lay x h'.1, nices_lay xs h'.2]; rfl
end
mutual
theorem nice_show : ∀ d : PyData, nice d = true → d.showable = true
  | .none, _ => rfl
  | .bool _, _ => rfl
  | .int i, h => by
    have h1 : i.natAbs < 10 ^ 20 := by simpa [nice] using h
    have h2 : i.natAbs < 2 ^ 67 := Nat.lt_trans h1 (by decide)
    simp only [PyData.showable, decide_eq_true_eq]
    by_cases h0 : i.natAbs = 0
    · rw [h0]; decide
    · exact Nat.lt_trans ((Nat.log2_lt h0).mpr h2) (by decide)
  | .str x, h => rfl
  | .list xs, h => by
    rw [PyData.showable]; exact nices_show xs (by simpa [nice] using h)
  | .tuple xs, h => by
    rw [PyData.showable]; exact nices_show xs (by simpa [nice] using h)
  | .dict _, h => by simp [nice] at h
theorem nices_show : ∀ xs : List PyData, nices xs = true → PyData.showableAll xs = true
  | [], _ => rfl
  | x :: xs, h => by
    have h' : nice x = true ∧ nices xs = true := by simpa [nices] using h
    rw [PyData.showableAll, nice_show x h'.1, nices_show xs h'.2]; rfl
end
theorem from_len : ∀ (ts : List Str) (k : Nat) (acc : Str), (textFrom k acc ts).length ≤ acc.length + piled ts
  | [], k, acc => by simp [textFrom, piled]
  | t :: ts, k, acc => by
    have ih := from_len ts (k + 1) (acc ++ (if k > 0 then ", " else "" : String) ++ t)
    rw [strLen_append, strLen_append] at ih
    have e : ((if k > 0 then ", " else "" : String) : Str).length ≤ 2 := by split <;> decide
    show (textFrom (k + 1) _ ts).length ≤ _
    rw [piled_cons]
    omega
mutual
theorem shown_le : ∀ d : PyData, nice d = true → d.shown.length ≤ wid d
  | .none, _ => by decide
  | .bool b, _ => by cases b <;> decide
  | .int i, h => by
    have h1 : i.natAbs < 10 ^ 20 := by simpa [nice] using h
    have := int_text_length_le10 (k := 20) (by decide) h1
    show (Str.ofString (toString i)).length ≤ 21
    rw [ofString_length]; exact this
  | .str x, h => by
    have hx : PyData.strOk x = true := by simpa [nice] using h
    refine StrLaws.reprText_len x fun c hc => ?_
    have hc' : c ∈ x.cps := by simpa using hc
    obtain ⟨i, hi, e⟩ := Array.getElem_of_mem hc'
    have := (Array.all_eq_true (p := fun c => decide (c < 0x110000))).mp hx i hi
    rw [e] at this
    have h2 : c < 0x110000 := of_decide_eq_true this
    omega
  | .list xs, h => by
    have ih := showns_le xs (by simpa [nice] using h)
    show (listText (PyData.shownAll xs)).length ≤ wids xs + 3
    unfold listText
    rw [strLen_append]
    have := from_len (PyData.shownAll xs) 0 "["
    have e1 : (("[" : String) : Str).length = 1 := rfl
    have e2 : (("]" : String) : Str).length = 1 := rfl
    omega
  | .tuple xs, h => by
    have ih := showns_le xs (by simpa [nice] using h)
    show (tupleText (PyData.shownAll xs)).length ≤ wids xs + 3
    unfold tupleText
    rw [strLen_append, strLen_append]
    have e1 : (("(" : String) : Str).length = 1 := rfl
    have e2 : ((if (PyData.shownAll xs).length == 1 then ",)" else ")" : String) : Str).length ≤ 2 := by split <;> decide
    by_cases h0 : PyData.shownAll xs = []
    · have e3 : (Str.join ", " (PyData.shownAll xs)).length = 0 := by rw [h0]; rfl
      omega
    · have := join_length_add _ h0
      omega
  | .dict _, h => by simp [nice] at h
theorem showns_le : ∀ xs : List PyData, nices xs = true → piled (PyData.shownAll xs) ≤ wids xs
  | [], _ => Nat.le_refl 0
  | x :: xs, h => by
    have h' : nice x = true ∧ nices xs = true := by simpa [nices] using h
    rw [PyData.shownAll, piled_cons, wids]
    have h1 := shown_le x h'.1
    have h2 := showns_le xs h'.2
    omega
end
theorem reprOk_by {d : D} (hp : d.pure = true) (hn : nice d.py = true) (hd : d.py.depth ≤ 64) (hw : wid d.py ≤ Line) : reprOk d = true := by
  unfold reprOk D.okd SeqAt.shaped
  rw [hp, nice_lay _ hn, nice_show _ hn]
  have := shown_le _ hn
  simp only [Bool.true_and, Bool.and_eq_true, decide_eq_true_eq]
  exact ⟨⟨hd, trivial⟩, by omega⟩
/-! ## kinds -/
theorem kit_non_int : kitB "NoneType" "int" = some false := by decide +kernel
@[simp] theorem isi_non_int : opf (.isi "int") [.non] = some (.val (.bl false)) := by show b1 (kitB "NoneType" "int") = _; rw [kit_non_int]; rfl
theorem kit_non_bool : kitB "NoneType" "bool" = some false := by decide +kernel
@[simp] theorem isi_non_bool : opf (.isi "bool") [.non] = some (.val (.bl false)) := by show b1 (kitB "NoneType" "bool") = _; rw [kit_non_bool]; rfl
theorem kit_non_str : kitB "NoneType" "str" = some false := by decide +kernel
@[simp] theorem isi_non_str : opf (.isi "str") [.non] = some (.val (.bl false)) := by show b1 (kitB "NoneType" "str") = _; rw [kit_non_str]; rfl
theorem kit_non_tuple : kitB "NoneType" "tuple" = some false := by decide +kernel
@[simp] theorem isi_non_tuple : opf (.isi "tuple") [.non] = some (.val (.bl false)) := by show b1 (kitB "NoneType" "tuple") = _; rw [kit_non_tuple]; rfl
theorem kit_non_list : kitB "NoneType" "list" = some false := by decide +kernel
@[simp] theorem isi_non_list : opf (.isi "list") [.non] = some (.val (.bl false)) := by show b1 (kitB "NoneType" "list") = _; rw [kit_non_list]; rfl
theorem kit_bl_int : kitB "bool" "int" = some true := by decide +kernel
@[simp] theorem isi_bl_int {b : Bool} : opf (.isi "int") [.bl b] = some (.val (.bl true)) := by show b1 (kitB "bool" "int") = _; rw [kit_bl_int]; rfl
theorem kit_bl_bool : kitB "bool" "bool" = some true := by decide +kernel
@[simp] theorem isi_bl_bool {b : Bool} : opf (.isi "bool") [.bl b] = some (.val (.bl true)) := by show b1 (kitB "bool" "bool") = _; rw [kit_bl_bool]; rfl
theorem kit_bl_str : kitB "bool" "str" = some false := by decide +kernel
@[simp] theorem isi_bl_str {b : Bool} : opf (.isi "str") [.bl b] = some (.val (.bl false)) := by show b1 (kitB "bool" "str") = _; rw [kit_bl_str]; rfl
theorem kit_bl_tuple : kitB "bool" "tuple" = some false := by decide +kernel
@[simp] theorem isi_bl_tuple {b : Bool} : opf (.isi "tuple") [.bl b] = some (.val (.bl false)) := by show b1 (kitB "bool" "tuple") = _; rw [kit_bl_tuple]; rfl
theorem kit_bl_list : kitB "bool" "list" = some false := by decide +kernel
@[simp] theorem isi_bl_list {b : Bool} : opf (.isi "list") [.bl b] = some (.val (.bl false)) := by show b1 (kitB "bool" "list") = _; rw [kit_bl_list]; rfl
theorem kit_int_int : kitB "int" "int" = some true := by decide +kernel
@[simp] theorem isi_int_int {i : Int} : opf (.isi "int") [.int i] = some (.val (.bl true)) := by show b1 (kitB "int" "int") = _; rw [kit_int_int]; rfl
theorem kit_int_bool : kitB "int" "bool" = some false := by decide +kernel
@[simp] theorem isi_int_bool {i : Int} : opf (.isi "bool") [.int i] = some (.val (.bl false)) := by show b1 (kitB "int" "bool") = _; rw [kit_int_bool]; rfl
theorem kit_int_str : kitB "int" "str" = some false := by decide +kernel
@[simp] theorem isi_int_str {i : Int} : opf (.isi "str") [.int i] = some (.val (.bl false)) := by show b1 (kitB "int" "str") = _; rw [kit_int_str]; rfl
theorem kit_int_tuple : kitB "int" "tuple" = some false := by decide +kernel
@[simp] theorem isi_int_tuple {i : Int} : opf (.isi "tuple") [.int i] = some (.val (.bl false)) := by show b1 (kitB "int" "tuple") = _; rw [kit_int_tuple]; rfl
theorem kit_int_list : kitB "int" "list" = some false := by decide +kernel
@[simp] theorem isi_int_list {i : Int} : opf (.isi "list") [.int i] = some (.val (.bl false)) := by show b1 (kitB "int" "list") = _; rw [kit_int_list]; rfl
theorem kit_str_int : kitB "str" "int" = some false := by decide +kernel
@[simp] theorem isi_str_int {s : Str} : opf (.isi "int") [.str s] = some (.val (.bl false)) := by show b1 (kitB "str" "int") = _; rw [kit_str_int]; rfl
theorem kit_str_bool : kitB "str" "bool" = some false := by decide +kernel
@[simp] theorem isi_str_bool {s : Str} : opf (.isi "bool") [.str s] = some (.val (.bl false)) := by show b1 (kitB "str" "bool") = _; rw [kit_str_bool]; rfl
theorem kit_str_str : kitB "str" "str" = some true := by decide +kernel
@[simp] theorem isi_str_str {s : Str} : opf (.isi "str") [.str s] = some (.val (.bl true)) := by show b1 (kitB "str" "str") = _; rw [kit_str_str]; rfl
theorem kit_str_tuple : kitB "str" "tuple" = some false := by decide +kernel
@[simp] theorem isi_str_tuple {s : Str} : opf (.isi "tuple") [.str s] = some (.val (.bl false)) := by show b1 (kitB "str" "tuple") = _; rw [kit_str_tuple]; rfl
theorem kit_str_list : kitB "str" "list" = some false := by decide +kernel
@[simp] theorem isi_str_list {s : Str} : opf (.isi "list") [.str s] = some (.val (.bl false)) := by show b1 (kitB "str" "list") = _; rw [kit_str_list]; rfl
theorem kit_tup_int : kitB "tuple" "int" = some false := by decide +kernel
@[simp] theorem isi_tup_int {xs : List D} : opf (.isi "int") [.tup xs] = some (.val (.bl false)) := by show b1 (kitB "tuple" "int") = _; rw [kit_tup_int]; rfl
theorem kit_tup_bool : kitB "tuple" "bool" = some false := by decide +kernel
@[simp] theorem isi_tup_bool {xs : List D} : opf (.isi "bool") [.tup xs] = some (.val (.bl false)) := by show b1 (kitB "tuple" "bool") = _; rw [kit_tup_bool]; rfl
theorem kit_tup_str : kitB "tuple" "str" = some false := by decide +kernel
@[simp] theorem isi_tup_str {xs : List D} : opf (.isi "str") [.tup xs] = some (.val (.bl false)) := by show b1 (kitB "tuple" "str") = _; rw [kit_tup_str]; rfl
theorem kit_tup_tuple : kitB "tuple" "tuple" = some true := by decide +kernel
@[simp] theorem isi_tup_tuple {xs : List D} : opf (.isi "tuple") [.tup xs] = some (.val (.bl true)) := by show b1 (kitB "tuple" "tuple") = _; rw [kit_tup_tuple]; rfl
theorem kit_tup_list : kitB "tuple" "list" = some false := by decide +kernel
@[simp] theorem isi_tup_list {xs : List D} : opf (.isi "list") [.tup xs] = some (.val (.bl false)) := by show b1 (kitB "tuple" "list") = _; rw [kit_tup_list]; rfl
theorem kit_lst_int : kitB "list" "int" = some false := by decide +kernel
@[simp] theorem isi_lst_int {xs : List D} : opf (.isi "int") [.lst xs] = some (.val (.bl false)) := by show b1 (kitB "list" "int") = _; rw [kit_lst_int]; rfl
theorem kit_lst_bool : kitB "list" "bool" = some false := by decide +kernel
@[simp] theorem isi_lst_bool {xs : List D} : opf (.isi "bool") [.lst xs] = some (.val (.bl false)) := by show b1 (kitB "list" "bool") = _; rw [kit_lst_bool]; rfl
theorem kit_lst_str : kitB "list" "str" = some false := by decide +kernel
@[simp] theorem isi_lst_str {xs : List D} : opf (.isi "str") [.lst xs] = some (.val (.bl false)) := by show b1 (kitB "list" "str") = _; rw [kit_lst_str]; rfl
theorem kit_lst_tuple : kitB "list" "tuple" = some false := by decide +kernel
@[simp] theorem isi_lst_tuple {xs : List D} : opf (.isi "tuple") [.lst xs] = some (.val (.bl false)) := by show b1 (kitB "list" "tuple") = _; rw [kit_lst_tuple]; rfl
theorem kit_lst_list : kitB "list" "list" = some true := by decide +kernel
@[simp] theorem isi_lst_list {xs : List D} : opf (.isi "list") [.lst xs] = some (.val (.bl true)) := by show b1 (kitB "list" "list") = _; rw [kit_lst_list]; rfl
/-! ## loops -/
theorem lc_step {vs : List Nat} {t : T} {f : Sts → R Sts (Bool × Sts)} {g : Sts → R Sts (D × Sts)} {x : D} {xs acc : List D} {ρ : Sts} : lcLoop vs t f g (x :: xs) acc ρ = (R.ofO (assignT t (.val x) ρ)).bind fun ρ1 => (f ρ1).bind fun p =>
      if p.1 then (g p.2).bind fun q => if acc.length < Line then lcLoop vs t f g xs (acc ++ [q.1]) (wipeE q.2 vs) else .bad
      else lcLoop vs t f g xs acc (wipeE p.2 vs) := rfl
/-- a comprehension that changes nothing -/
theorem lc_map {vs : List Nat} {t : T} {f : Sts → R Sts (Bool × Sts)} {g : Sts → R Sts (D × Sts)} {ρ : Sts} (p : D → Bool) (h : D → D) : ∀ (xs acc : List D),
    (∀ x ∈ xs, ∃ ρ1, assignT t (.val x) ρ = some ρ1 ∧ f ρ1 = .ok (p x, ρ1) ∧ (p x = true → g ρ1 = .ok (h x, ρ1)) ∧ wipeE ρ1 vs = ρ) → acc.length + xs.length ≤ Line → lcLoop vs t f g xs acc ρ = .ok (acc ++ (xs.filter p).map h, ρ)
  | [], acc, _, _ => by simp
  | x :: xs, acc, hs, hl => by
    obtain ⟨ρ1, e1, e2, e3, e4⟩ := hs x List.mem_cons_self
    have rest := fun y hy => hs y (List.mem_cons_of_mem _ hy)
    rw [List.length_cons] at hl
    rw [lc_step, e1, R.ofO_some, R.bind_ok, e2, R.bind_ok]
    cases hp : p x with
    | true =>
      rw [if_pos rfl, e3 hp, R.bind_ok, if_pos (by omega), e4, lc_map p h xs _ rest (by simp; omega), List.filter_cons_of_pos hp]
      simp
    | false =>
      rw [if_neg (by simp), e4, lc_map p h xs acc rest (by omega), List.filter_cons_of_neg (by simp [hp])]
/-- a comprehension that may change what I speaks of -/
theorem lc_any {vs : List Nat} {t : T} {f : Sts → R Sts (Bool × Sts)} {g : Sts → R Sts (D × Sts)} (I : Sts → Prop) (Q : D → Prop) : ∀ (xs acc : List D) (ρ : Sts),
    (∀ x ∈ xs, ∀ ρ, I ρ → ∃ ρ1 b ρ2, assignT t (.val x) ρ = some ρ1 ∧ f ρ1 = .ok (b, ρ2) ∧ (b = false → I (wipeE ρ2 vs)) ∧ (b = true → ∃ d ρ3, g ρ2 = .ok (d, ρ3) ∧ Q d ∧ I (wipeE ρ3 vs))) → I ρ → acc.length + xs.length ≤ Line →
      ∃ out ρ', lcLoop vs t f g xs acc ρ = .ok (acc ++ out, ρ') ∧ I ρ' ∧ (∀ d ∈ out, Q d) ∧ out.length ≤ xs.length
  | [], acc, ρ, _, hI, _ => ⟨[], ρ, by simp, hI, by simp, Nat.le_refl _⟩
  | x :: xs, acc, ρ, hs, hI, hl => by
    obtain ⟨ρ1, b, ρ2, e1, e2, e3, e4⟩ := hs x List.mem_cons_self ρ hI
    have rest := fun y hy => hs y (List.mem_cons_of_mem _ hy)
    rw [List.length_cons] at hl
    rw [lc_step, e1, R.ofO_some, R.bind_ok, e2, R.bind_ok]
    cases b with
    | true =>
      obtain ⟨d, ρ3, e5, e6, e7⟩ := e4 rfl
      obtain ⟨out, ρ', z1, z2, z3, z4⟩ := lc_any I Q xs (acc ++ [d]) _ rest e7 (by simp; omega)
      refine ⟨d :: out, ρ', ?_, z2, ?_, by simp; omega⟩
      · rw [if_pos rfl, e5, R.bind_ok, if_pos (by omega), z1]; simp
      · intro y hy
        rcases List.mem_cons.mp hy with rfl | hy
        · exact e6
        · exact z3 y hy
    | false =>
      obtain ⟨out, ρ', z1, z2, z3, z4⟩ := lc_any I Q xs acc _ rest (e3 rfl) (by omega)
      exact ⟨out, ρ', by rw [if_neg (by simp), z1], z2, z3, by simp; omega⟩
/-- a for that comes to its end -/
theorem for_any {step : D → Sts → R Sts Out} (I : Nat → Sts → Prop) : ∀ (xs : List D) (i : Nat) (ρ : Sts), (∀ (j : Nat) (x : D) (ρ : Sts), xs[j]? = some x → I (i + j) ρ → ∃ ρ', (step x ρ = .ok (.nx ρ') ∨ step x ρ = .ok (.ct ρ')) ∧ I (i + j + 1) ρ') → I i ρ → ∃ ρ', forR step xs ρ = .ok (.nx ρ') ∧ I (i + xs.length) ρ'
  | [], i, ρ, _, hI => ⟨ρ, rfl, hI⟩
  | x :: xs, i, ρ, hs, hI => by
    obtain ⟨ρ1, e1, e2⟩ := hs 0 x ρ rfl hI
    obtain ⟨ρ', z1, z2⟩ := for_any I xs (i + 1) ρ1 (fun j y ρ hj hI => by
      have := hs (j + 1) y ρ (by simpa using hj) (by rw [show i + (j + 1) = i + 1 + j by omega]; exact hI)
      rw [show i + (j + 1) + 1 = i + 1 + j + 1 by omega] at this
      exact this) e2
    refine ⟨ρ', ?_, by rw [List.length_cons, show i + (xs.length + 1) = i + 1 + xs.length by omega]; exact z2⟩
    rcases e1 with e1 | e1 <;> (unfold forR; rw [e1]; exact z1)
@[simp] theorem wipe_nil {ρ : Sts} : wipeE ρ [] = ρ := Eq.trans rfl rfl
@[simp] theorem wipe_cons {ρ : Sts} {v : Nat} {vs : List Nat} : wipeE ρ (v :: vs) = (wipeE ρ vs).set v .emp := Eq.trans rfl rfl
@[simp] theorem back_nil {ρ0 ρ : Sts} : backE ρ0 ρ [] = ρ := Eq.trans rfl rfl
@[simp] theorem back_cons {ρ0 ρ : Sts} {v : Nat} {vs : List Nat} : backE ρ0 ρ (v :: vs) = (backE ρ0 ρ vs).set v (ρ0.getD v .emp) := Eq.trans rfl rfl
@[simp] theorem ownAny_nil {ρ : Sts} : ownAny ρ [] = false := Eq.trans rfl rfl
@[simp] theorem ownAny_cons {ρ : Sts} {v : Nat} {vs : List Nat} : ownAny ρ (v :: vs) = (isOwn ρ v || ownAny ρ vs) := Eq.trans rfl rfl
@[simp] theorem src_itL {xs : List D} : srcf .it [.lst xs] = some xs := Eq.trans rfl rfl
@[simp] theorem src_itT {xs : List D} : srcf .it [.tup xs] = some xs := Eq.trans rfl rfl
theorem src_rng {n : Nat} (h : n < 2 ^ 62) : srcf .rng [.int n] = some ((List.range n).map fun k => D.int (k : Nat)) := by
  show rngf 0 n = _
  unfold rngf
  rw [if_pos (by omega)]
  simp
theorem src_rng2 {i j : Int} (h : -(2 ^ 62) ≤ i ∧ i < 2 ^ 62 ∧ -(2 ^ 62) ≤ j ∧ j < 2 ^ 62) : srcf .rng [.int i, .int j] = some ((List.range (j - i).toNat).map fun k => D.int (i + (k : Nat))) := if_pos h
@[simp] theorem opf_tupL {xs : List D} : opf .tuple [.lst xs] = some (.val (.tup xs)) := Eq.trans rfl rfl
@[simp] theorem opf_tupT {xs : List D} : opf .tuple [.tup xs] = some (.val (.tup xs)) := Eq.trans rfl rfl
theorem mkf_lst {ds : List D} (h : ds.length ≤ Line) : mkf .lst ds = some (.own (.lst ds)) := if_pos h
theorem mkf_tup {ds : List D} (h : ds.length ≤ Line) : mkf .tup ds = some (.val (.tup ds)) := if_pos h
theorem muf_app {xs : List D} {y : D} (h : xs.length < Line) : muf .append (.lst xs) [y] = some (.non, .lst (xs ++ [y])) := if_pos h
theorem muf_ext {xs ys : List D} (h : xs.length + ys.length ≤ Line) : muf .extend (.lst xs) [.lst ys] = some (.non, .lst (xs ++ ys)) := if_pos h
/-- .. at once -/
theorem ev_lcm {Φ : Nat → Fn} {vs : List Nat} {t : T} {k : Sk} {src ifs : List E} {elt : E} {ρ ρ1 : Sts} {ds items : List D} (p : D → Bool) (h : D → D) (hs : evVs Φ src ρ = .ok (ds, ρ1)) (hi : srcf k ds = some items) (ho : ownAny ρ1 vs = false)
    (st : ∀ x ∈ items, ∃ ρ2, assignT t (.val x) (wipeE ρ1 vs) = some ρ2 ∧ evTs Φ ifs ρ2 = .ok (p x, ρ2) ∧ (p x = true → rel (ev Φ elt ρ2) = .ok (h x, ρ2)) ∧ wipeE ρ2 vs = wipeE ρ1 vs) (hl : items.length ≤ Line) :
    ev Φ (.lc vs t k src ifs elt) ρ = .ok (.own (.lst ((items.filter p).map h)), backE ρ1 (wipeE ρ1 vs) vs) := by
  show ((evVs Φ src ρ).bind fun p => match srcf k p.1 with
    | some items => if ownAny p.2 vs then .bad else
        (noExc (lcLoop vs t (fun ρ => evTs Φ ifs ρ) (fun ρ => rel (ev Φ elt ρ)) items [] (wipeE p.2 vs))).map fun q => (Slot.own (.lst q.1), backE p.2 q.2 vs)
    | none => .bad) = _
  rw [hs, R.bind_ok]
  dsimp only
  rw [hi]
  dsimp only
  rw [ho, if_neg Bool.false_ne_true, lc_map p h items [] st (by simpa using hl)]
  rfl
theorem ev_lca {Φ : Nat → Fn} {vs : List Nat} {t : T} {k : Sk} {src ifs : List E} {elt : E} {ρ ρ1 : Sts} {ds items : List D} (I : Sts → Prop) (Q : D → Prop) (hs : evVs Φ src ρ = .ok (ds, ρ1)) (hi : srcf k ds = some items) (ho : ownAny ρ1 vs = false)
    (st : ∀ x ∈ items, ∀ ρ, I ρ → ∃ ρ1 b ρ2, assignT t (.val x) ρ = some ρ1 ∧ evTs Φ ifs ρ1 = .ok (b, ρ2) ∧ (b = false → I (wipeE ρ2 vs)) ∧ (b = true → ∃ d ρ3, rel (ev Φ elt ρ2) = .ok (d, ρ3) ∧ Q d ∧ I (wipeE ρ3 vs))) (h0 : I (wipeE ρ1 vs)) (hl : items.length ≤ Line) :
    ∃ out ρ', ev Φ (.lc vs t k src ifs elt) ρ = .ok (.own (.lst out), backE ρ1 ρ' vs) ∧ I ρ' ∧ (∀ d ∈ out, Q d) ∧ out.length ≤ items.length := by
  obtain ⟨out, ρ', e1, e2, e3, e4⟩ := lc_any (vs := vs) (t := t) (f := fun ρ => evTs Φ ifs ρ) (g := fun ρ => rel (ev Φ elt ρ)) I Q items [] _ st h0 (by simpa using hl)
  refine ⟨out, ρ', ?_, e2, e3, e4⟩
  show ((evVs Φ src ρ).bind fun p => match srcf k p.1 with
    | some items => if ownAny p.2 vs then .bad else
        (noExc (lcLoop vs t (fun ρ => evTs Φ ifs ρ) (fun ρ => rel (ev Φ elt ρ)) items [] (wipeE p.2 vs))).map fun q => (Slot.own (.lst q.1), backE p.2 q.2 vs)
    | none => .bad) = _
  rw [hs, R.bind_ok]
  dsimp only
  rw [hi]
  dsimp only
  rw [ho, if_neg Bool.false_ne_true, e1]
  rfl
theorem evS_fora {Φ : Nat → Fn} {t : T} {k : Sk} {src : List E} {b : List S} {ρ ρ1 : Sts} {ds items : List D} (I : Nat → Sts → Prop) (hs : evVs Φ src ρ = .ok (ds, ρ1)) (hi : srcf k ds = some items)
    (st : ∀ (j : Nat) (x : D) (ρ : Sts), items[j]? = some x → I j ρ → ∃ ρ2 ρ', assignT t (.val x) ρ = some ρ2 ∧ (evSs Φ b ρ2 = .ok (.nx ρ') ∨ evSs Φ b ρ2 = .ok (.ct ρ')) ∧ I (j + 1) ρ') (h0 : I 0 ρ1) : ∃ ρ', evS Φ (.for t k src b) ρ = .ok (.nx ρ') ∧ I items.length ρ' := by
  obtain ⟨ρ', e1, e2⟩ := for_any (step := fun x ρ => (R.ofO (assignT t (.val x) ρ)).bind fun ρ1 => evSs Φ b ρ1) I items 0 ρ1 (fun j x ρ hj hI => by
    rw [Nat.zero_add] at hI
    obtain ⟨ρ2, ρ', q1, q2, q3⟩ := st j x ρ hj hI
    refine ⟨ρ', ?_, by rw [Nat.zero_add]; exact q3⟩
    rw [q1, R.ofO_some, R.bind_ok]
    exact q2) h0
  rw [Nat.zero_add] at e2
  refine ⟨ρ', ?_, e2⟩
  show ((evVs Φ src ρ).bind fun p => match srcf k p.1 with
    | some items => forR (fun x ρ => (R.ofO (assignT t (.val x) ρ)).bind fun ρ1 => evSs Φ b ρ1) items p.2
    | none => .bad) = _
  rw [hs, R.bind_ok]
  dsimp only
  rw [hi]
  exact e1
/-- a def's end -/
theorem runD_rt {Φ : Nat → Fn} {d : Def} {ds cs : List D} {t : Slot} {ρ : Sts} (hl : ds.length = d.m.length) (h : evSs Φ d.body (entry d.m ds ++ List.replicate (d.n - d.m.length) .emp) = .ok (.rt t ρ)) (ho : outIos d.m ρ = some cs) {r : Slot} (hr : (if d.ro then t else .val t.d) = r) : runD Φ d ds = .ok (r, cs) := by
  rw [runD_of hl, h]
  show outR d.ro d.m t ρ = _
  rw [outR_def, ho, hr]; rfl
theorem runD_nx {Φ : Nat → Fn} {d : Def} {ds cs : List D} {ρ : Sts} (hl : ds.length = d.m.length) (h : evSs Φ d.body (entry d.m ds ++ List.replicate (d.n - d.m.length) .emp) = .ok (.nx ρ)) (ho : outIos d.m ρ = some cs) : runD Φ d ds = .ok (.val .non, cs) := by
  rw [runD_of hl, h]
  show outR d.ro d.m (.val .non) ρ = _
  rw [outR_def, ho]
  cases d.ro <;> rfl
/-- a while that comes to its end -/
theorem whl_any {Φ : Nat → Fn} {t : E} {b : List S} (I : Nat → Sts → Prop) (Q : Sts → Prop)
    (turn : ∀ m ρ, I m ρ → (∃ ρ1, tru (rel (ev Φ t ρ)) = .ok (false, ρ1) ∧ Q ρ1) ∨ (∃ ρ1 ρ2 m', tru (rel (ev Φ t ρ)) = .ok (true, ρ1) ∧ (evSs Φ b ρ1 = .ok (.nx ρ2) ∨ evSs Φ b ρ1 = .ok (.ct ρ2)) ∧ m' < m ∧ I m' ρ2)) :
    ∀ (f m : Nat) (ρ : Sts), I m ρ → m < f → ∃ ρ', whlR (fun ρ => tru (rel (ev Φ t ρ))) (fun ρ => evSs Φ b ρ) f ρ = .ok (.nx ρ') ∧ Q ρ'
  | 0, m, ρ, _, h => absurd h (Nat.not_lt_zero _)
  | f + 1, m, ρ, hI, h => by
    rcases turn m ρ hI with ⟨ρ1, e1, q⟩ | ⟨ρ1, ρ2, m', e1, e2, hm, hI'⟩
    · refine ⟨ρ1, ?_, q⟩
      unfold whlR
      rw [e1]; rfl
    · obtain ⟨ρ', e3, q⟩ := whl_any I Q turn f m' ρ2 hI' (by omega)
      refine ⟨ρ', ?_, q⟩
      unfold whlR
      rw [e1, R.bind_ok]
      dsimp only
      rw [if_pos rfl]
      rcases e2 with e2 | e2 <;> (rw [e2]; exact e3)
theorem evS_whla {Φ : Nat → Fn} {t : E} {b : List S} {ρ : Sts} {m : Nat} (I : Nat → Sts → Prop) (Q : Sts → Prop)
    (turn : ∀ m ρ, I m ρ → (∃ ρ1, tru (rel (ev Φ t ρ)) = .ok (false, ρ1) ∧ Q ρ1) ∨ (∃ ρ1 ρ2 m', tru (rel (ev Φ t ρ)) = .ok (true, ρ1) ∧ (evSs Φ b ρ1 = .ok (.nx ρ2) ∨ evSs Φ b ρ1 = .ok (.ct ρ2)) ∧ m' < m ∧ I m' ρ2)) (h0 : I m ρ) (hm : m < fuel) : ∃ ρ', evS Φ (.whl t b) ρ = .ok (.nx ρ') ∧ Q ρ' :=
  whl_any I Q turn fuel m ρ h0 hm
theorem lt_fuel {m : Nat} (h : m ≤ 1000000) : m < fuel := Nat.lt_of_le_of_lt h (by unfold fuel; decide)
end DL
namespace W
open PySem DL L2
def tp (i : Nat) : Stmt := PySem.Challenge.pw_setinlines_k02_lines_that_are_set.main.body.getD i (.Pass ⟨0, 0, 0, 0⟩)
def fns : List FnS := [⟨"is_integer", [false]⟩, ⟨"check_items", [false]⟩, ⟨"check_item", [false]⟩, ⟨"may_break", [false, false]⟩, ⟨"must_break", [false, false]⟩, ⟨"begin_behind", [false, false]⟩, ⟨"line_items", [false, false, false]⟩, ⟨"check_break", [false, false, false]⟩, ⟨"sums_of", [false]⟩, ⟨"check_width", [false]⟩, ⟨"badness", [false, false]⟩, ⟨"bad_of", [false, false]⟩, ⟨"bad_of_sums", [false, false]⟩, ⟨"line_badness", [false, false, false, false]⟩, ⟨"check_gap", [false, false]⟩, ⟨"badness_of", [false, false]⟩, ⟨"shares", [false, false]⟩, ⟨"set_row", [false, false]⟩, ⟨"set_line", [false, false, false, false]⟩, ⟨"placed", [false, false]⟩, ⟨"accept_set", [false, false, false, false, false]⟩, ⟨"lets", [false, false]⟩, ⟨"is_tight", [false, false, false, false]⟩, ⟨"class_of", [false, false, false, false]⟩, ⟨"class_of_sums", [false, false]⟩, ⟨"_law_start", [false]⟩, ⟨"_law_draw", [true, false]⟩, ⟨"_law_pick", [true, false]⟩, ⟨"_law_same", [false, false]⟩, ⟨"_law_items", [true, false]⟩, ⟨"_law_must", [false, false]⟩, ⟨"_law_places", [false]⟩, ⟨"_law_begin", [false, false]⟩, ⟨"_law_line", [false, false, false]⟩, ⟨"_law_sums", [false]⟩, ⟨"_law_bad", [false, false]⟩, ⟨"_law_bad_of", [false, false]⟩, ⟨"_law_class", [false, false]⟩, ⟨"_law_set", [false, false]⟩, ⟨"law", [false]⟩]
def cns : List (Str × D) := [("MAX_ITEMS", .int 120), ("MAX_WIDTH", .int 100000), ("MAX_FINE", .int 10000), ("MAX_BADNESS", .int 10000)]
def bns : List Str := ["len", "int", "abs", "all", "sum", "max", "min", "tuple", "list", "repr", "isinstance", "bool", "str", "range", "zip"]
def dns : List (Str × List (Str × Int)) := [("KINDS", [("box", 2), ("spring", 4), ("fine", 4)])]
def cx (i : Nat) (N M : List Str) : DL.Ctx := { N := N, sc := defScope (tp i), fn := fun _ => true, M := M, fs := fns, cs := cns, bs := bns, ds := dns }
def g0 : DL.Ctx := cx 6 ["value"] []
def g1 : DL.Ctx := cx 13 ["items", "item"] []
def g2 : DL.Ctx := cx 14 ["item", "widths", "width"] []
def g3 : DL.Ctx := cx 15 ["items", "at"] []
def g4 : DL.Ctx := cx 16 ["items", "at"] []
def g5 : DL.Ctx := cx 17 ["items", "at", "begin"] []
def g6 : DL.Ctx := cx 18 ["items", "first", "last", "found", "item"] ["found"]
def g7 : DL.Ctx := cx 19 ["items", "first", "last"] []
def g8 : DL.Ctx := cx 20 ["row", "width", "springs", "item"] []
def g9 : DL.Ctx := cx 22 ["width"] []
def g10 : DL.Ctx := cx 23 ["gap", "give"] []
def g11 : DL.Ctx := cx 24 ["row", "width"] []
def g12 : DL.Ctx := cx 25 ["sums", "width", "own", "stretch", "shrink"] []
def g13 : DL.Ctx := cx 26 ["items", "first", "last", "width"] []
def g14 : DL.Ctx := cx 27 ["gap", "give"] []
def g15 : DL.Ctx := cx 28 ["gap", "give"] []
def g16 : DL.Ctx := cx 29 ["gap", "gives", "total", "found", "done", "given", "give", "upto"] ["found"]
def g17 : DL.Ctx := cx 30 ["row", "width", "gap", "gives", "changes", "own", "stretch", "shrink", "item", "change"] []
def g18 : DL.Ctx := cx 31 ["items", "first", "last", "width"] []
def g19 : DL.Ctx := cx 32 ["row", "width", "widths", "found", "place", "own"] ["found"]
def g20 : DL.Ctx := cx 33 ["items", "first", "last", "width", "rows", "row", "own", "place", "item", "stretch", "shrink", "part"] []
def g21 : DL.Ctx := cx 34 ["item", "width"] []
def g22 : DL.Ctx := cx 35 ["items", "first", "last", "width", "own", "stretch", "shrink"] []
def g23 : DL.Ctx := cx 36 ["items", "first", "last", "width"] []
def g24 : DL.Ctx := cx 37 ["sums", "width", "own", "stretch", "shrink"] []
def g25 : DL.Ctx := cx 39 ["script", "seed", "cell"] []
def g26 : DL.Ctx := cx 40 ["state", "many", "value"] ["state"]
def g27 : DL.Ctx := cx 41 ["state", "some"] ["state"]
def g28 : DL.Ctx := cx 42 ["actual", "due"] []
def g29 : DL.Ctx := cx 43 ["state", "most", "style", "k", "found", "top", "pick", "cost"] ["state", "found"]
def g30 : DL.Ctx := cx 44 ["items", "at"] []
def g31 : DL.Ctx := cx 45 ["items", "found", "at"] ["found"]
def g32 : DL.Ctx := cx 46 ["items", "first", "begin"] []
def g33 : DL.Ctx := cx 47 ["items", "first", "last", "row", "item"] []
def g34 : DL.Ctx := cx 48 ["row", "springs", "item"] []
def g35 : DL.Ctx := cx 49 ["gap", "give"] []
def g36 : DL.Ctx := cx 50 ["sums", "width", "own", "stretch", "shrink"] []
def g37 : DL.Ctx := cx 51 ["sums", "width", "gap", "own", "stretch", "shrink"] []
def g38 : DL.Ctx := cx 52 ["row", "width", "whole", "item", "own", "stretch", "shrink", "gap", "found", "place", "given", "done", "wide", "upto"] ["found"]
def g39 : DL.Ctx := cx 53 ["script", "state", "turn", "items", "breaks", "k", "last", "first", "row", "sums", "near", "width", "told", "due", "word", "gap", "give", "end", "one"] ["state"]

def b0 : List S := [(.ret (.and (.op (.isi "int") [(.var 0)]) (.ife (.op (.isi "bool") [(.var 0)]) (.lit (.bl false)) (.lit (.bl true)))))]
def b1 : List S := [(.ite (.or (.ife (.op (.isi "tuple") [(.var 0)]) (.lit (.bl false)) (.lit (.bl true))) (.ife (.op .all [(.lc [1] (.name 1 false) .it [(.var 0)] [] (.and (.op (.isi "tuple") [(.var 1)]) (.op (.cmp .Gt) [(.op .len [(.var 1)]), (.lit (.int 0))])))]) (.lit (.bl false)) (.lit (.bl true)))) [(.raise "" (.lit .non))] []),
  (.ite (.ife (.chain (.lit (.int 1)) .LtE (.op .len [(.var 0)]) .LtE (.lit (.int 120))) (.lit (.bl false)) (.lit (.bl true))) [(.raise "" (.lit .non))] []),
  (.for (.name 1 false) .it [(.var 0)] [(.exp (.call 2 [false] [(.var 1)]))]),
  (.ite (.or (.op (.cmp .NotEq) [(.op .ix [(.op .ix [(.var 0), (.op .neg [(.lit (.int 1))])]), (.lit (.int 0))]), (.lit (.str "fine"))]) (.op (.cmp .NotEq) [(.op .ix [(.op .ix [(.var 0), (.op .neg [(.lit (.int 1))])]), (.lit (.int 1))]), (.op .neg [(.lit (.int 10000))])])) [(.raise "" (.lit .non))] [])]
def b2 : List S := [(.ite (.or (.ife (.op (.isi "str") [(.op .ix [(.var 0), (.lit (.int 0))])]) (.lit (.bl false)) (.lit (.bl true))) (.or (.op (.inK [("box", 2), ("spring", 4), ("fine", 4)] true) [(.op .ix [(.var 0), (.lit (.int 0))])]) (.op (.cmp .NotEq) [(.op .len [(.var 0)]), (.op (.ixK [("box", 2), ("spring", 4), ("fine", 4)]) [(.op .ix [(.var 0), (.lit (.int 0))])])]))) [(.raise "" (.lit .non))] []),
  (.asg (.name 1 false) (.ife (.op (.cmp .Eq) [(.op .ix [(.var 0), (.lit (.int 0))]), (.lit (.str "fine"))]) (.op (.sl true true) [(.var 0), (.op .ck [(.lit (.int 2))]), (.op .ck [(.lit (.int 3))])]) (.op (.sl true false) [(.var 0), (.op .ck [(.lit (.int 1))])]))),
  (.ite (.ife (.op .all [(.lc [2] (.name 2 false) .it [(.var 1)] [] (.and (.call 0 [false] [(.var 2)]) (.chain (.lit (.int 0)) .LtE (.var 2) .LtE (.lit (.int 100000)))))]) (.lit (.bl false)) (.lit (.bl true))) [(.raise "" (.lit .non))] []),
  (.ite (.op (.cmp .Eq) [(.op .ix [(.var 0), (.lit (.int 0))]), (.lit (.str "fine"))]) [(.ite (.or (.ife (.call 0 [false] [(.op .ix [(.var 0), (.lit (.int 1))])]) (.lit (.bl false)) (.lit (.bl true))) (.op (.cmp .Gt) [(.op .abs [(.op .ix [(.var 0), (.lit (.int 1))])]), (.lit (.int 10000))])) [(.raise "" (.lit .non))] []), (.ite (.ife (.op (.isi "bool") [(.op .ix [(.var 0), (.lit (.int 3))])]) (.lit (.bl false)) (.lit (.bl true))) [(.raise "" (.lit .non))] [])] [])]
def b3 : List S := [(.ite (.op (.cmp .Eq) [(.op .ix [(.op .ix [(.var 0), (.var 1)]), (.lit (.int 0))]), (.lit (.str "fine"))]) [(.ret (.op (.cmp .Lt) [(.op .ix [(.op .ix [(.var 0), (.var 1)]), (.lit (.int 1))]), (.lit (.int 10000))]))] []),
  (.ret (.and (.op (.cmp .Eq) [(.op .ix [(.op .ix [(.var 0), (.var 1)]), (.lit (.int 0))]), (.lit (.str "spring"))]) (.and (.op (.cmp .Gt) [(.var 1), (.lit (.int 0))]) (.op (.cmp .Eq) [(.op .ix [(.op .ix [(.var 0), (.op (.bin .Sub) [(.var 1), (.lit (.int 1))])]), (.lit (.int 0))]), (.lit (.str "box"))]))))]
def b4 : List S := [(.ret (.and (.op (.cmp .Eq) [(.op .ix [(.op .ix [(.var 0), (.var 1)]), (.lit (.int 0))]), (.lit (.str "fine"))]) (.op (.cmp .Eq) [(.op .ix [(.op .ix [(.var 0), (.var 1)]), (.lit (.int 1))]), (.op .neg [(.lit (.int 10000))])])))]
def b5 : List S := [(.asg (.name 2 false) (.op (.bin .Add) [(.var 1), (.lit (.int 1))])),
  (.whl (.and (.op (.cmp .GtE) [(.var 1), (.lit (.int 0))]) (.and (.op (.cmp .Lt) [(.var 2), (.op .len [(.var 0)])]) (.and (.op (.cmp .NotEq) [(.op .ix [(.op .ix [(.var 0), (.var 2)]), (.lit (.int 0))]), (.lit (.str "box"))]) (.ife (.call 4 [false, false] [(.var 0), (.var 2)]) (.lit (.bl false)) (.lit (.bl true)))))) [(.aug 2 .Add (.lit (.int 1)))]),
  (.reto 2)]
def b6 : List S := [(.asg (.name 3 true) (.lc [4] (.name 4 false) .it [(.op (.sl true true) [(.var 0), (.op .ck [(.call 5 [false, false] [(.var 0), (.var 1)])]), (.op .ck [(.var 2)])])] [(.op (.cmp .NotEq) [(.op .ix [(.var 4), (.lit (.int 0))]), (.lit (.str "fine"))])] (.var 4))),
  (.ite (.and (.op (.cmp .Eq) [(.op .ix [(.op .ix [(.var 0), (.var 2)]), (.lit (.int 0))]), (.lit (.str "fine"))]) (.op (.cmp .Gt) [(.op .ix [(.op .ix [(.var 0), (.var 2)]), (.lit (.int 2))]), (.lit (.int 0))])) [(.exp (.mu .append 3 [(.mk .tup [(.lit (.str "box")), (.op .ix [(.op .ix [(.var 0), (.var 2)]), (.lit (.int 2))])])]))] []),
  (.reto 3)]
def b7 : List S := [(.ite (.or (.ife (.call 0 [false] [(.var 1)]) (.lit (.bl false)) (.lit (.bl true))) (.and (.op (.cmp .NotEq) [(.var 1), (.op .neg [(.lit (.int 1))])]) (.ife (.and (.chain (.lit (.int 0)) .LtE (.var 1) .Lt (.op .len [(.var 0)])) (.call 3 [false, false] [(.var 0), (.var 1)])) (.lit (.bl false)) (.lit (.bl true))))) [(.raise "" (.lit .non))] []),
  (.ite (.or (.ife (.call 0 [false] [(.var 2)]) (.lit (.bl false)) (.lit (.bl true))) (.or (.ife (.chain (.var 1) .Lt (.var 2) .Lt (.op .len [(.var 0)])) (.lit (.bl false)) (.lit (.bl true))) (.ife (.call 3 [false, false] [(.var 0), (.var 2)]) (.lit (.bl false)) (.lit (.bl true))))) [(.raise "" (.lit .non))] [])]
def b8 : List S := [(.asg (.name 1 false) (.op .sum [(.lc [3] (.name 3 false) .it [(.var 0)] [] (.op .ix [(.var 3), (.lit (.int 1))]))])),
  (.asg (.name 2 false) (.lc [3] (.name 3 false) .it [(.var 0)] [(.op (.cmp .Eq) [(.op .ix [(.var 3), (.lit (.int 0))]), (.lit (.str "spring"))])] (.var 3))),
  (.ret (.mk .tup [(.var 1), (.op .sum [(.lc [3] (.name 3 false) .it [(.var 2)] [] (.op .ix [(.var 3), (.lit (.int 2))]))]), (.op .sum [(.lc [3] (.name 3 false) .it [(.var 2)] [] (.op .ix [(.var 3), (.lit (.int 3))]))])]))]
def b9 : List S := [(.ite (.or (.ife (.call 0 [false] [(.var 0)]) (.lit (.bl false)) (.lit (.bl true))) (.ife (.chain (.lit (.int 1)) .LtE (.var 0) .LtE (.lit (.int 100000))) (.lit (.bl false)) (.lit (.bl true)))) [(.raise "" (.lit .non))] [])]
def b10 : List S := [(.ite (.op (.cmp .Eq) [(.var 0), (.lit (.int 0))]) [(.ret (.lit (.int 0)))] []),
  (.ite (.op (.cmp .Eq) [(.var 1), (.lit (.int 0))]) [(.ret (.lit (.int 10000)))] []),
  (.ret (.op .min [(.lit (.int 10000)), (.op (.bin .FloorDiv) [(.op (.bin .Mult) [(.op (.bin .Mult) [(.op (.bin .Mult) [(.lit (.int 100)), (.var 0)]), (.var 0)]), (.var 0)]), (.op (.bin .Mult) [(.op (.bin .Mult) [(.var 1), (.var 1)]), (.var 1)])])]))]
def b11 : List S := [(.ret (.call 12 [false, false] [(.call 8 [false] [(.var 0)]), (.var 1)]))]
def b12 : List S := [(.asg (.tup [(.name 2 false), (.name 3 false), (.name 4 false)]) (.var 0)),
  (.ite (.op (.cmp .Gt) [(.var 2), (.op (.bin .Add) [(.var 1), (.var 4)])]) [(.ret (.lit .non))] []),
  (.ret (.ife (.op (.cmp .LtE) [(.var 2), (.var 1)]) (.call 10 [false, false] [(.op (.bin .Sub) [(.var 1), (.var 2)]), (.var 3)]) (.call 10 [false, false] [(.op (.bin .Sub) [(.var 2), (.var 1)]), (.var 4)])))]
def b13 : List S := [(.exp (.call 1 [false] [(.var 0)])),
  (.exp (.call 7 [false, false, false] [(.var 0), (.var 1), (.var 2)])),
  (.exp (.call 9 [false] [(.var 3)])),
  (.ret (.call 11 [false, false] [(.call 6 [false, false, false] [(.var 0), (.var 1), (.var 2)]), (.var 3)]))]
def b14 : List S := [(.ite (.or (.ife (.call 0 [false] [(.var 0)]) (.lit (.bl false)) (.lit (.bl true))) (.ife (.chain (.lit (.int 0)) .LtE (.var 0) .LtE (.op (.bin .Mult) [(.lit (.int 120)), (.lit (.int 100000))])) (.lit (.bl false)) (.lit (.bl true)))) [(.raise "" (.lit .non))] []),
  (.ite (.or (.ife (.call 0 [false] [(.var 1)]) (.lit (.bl false)) (.lit (.bl true))) (.ife (.chain (.lit (.int 0)) .LtE (.var 1) .LtE (.op (.bin .Mult) [(.lit (.int 120)), (.lit (.int 100000))])) (.lit (.bl false)) (.lit (.bl true)))) [(.raise "" (.lit .non))] [])]
def b15 : List S := [(.exp (.call 14 [false, false] [(.var 0), (.var 1)])),
  (.ret (.call 10 [false, false] [(.var 0), (.var 1)]))]
def b16 : List S := [(.asg (.name 2 false) (.op .sum [(.var 1)])),
  (.asg (.name 3 true) (.mk .lst [])),
  (.asg (.name 4 false) (.lit (.int 0))),
  (.asg (.name 5 false) (.lit (.int 0))),
  (.for (.name 6 false) .it [(.var 1)] [(.aug 5 .Add (.var 6)), (.asg (.name 7 false) (.ife (.op (.cmp .Gt) [(.var 2), (.lit (.int 0))]) (.op (.bin .FloorDiv) [(.op (.bin .Mult) [(.var 0), (.var 5)]), (.var 2)]) (.lit (.int 0)))), (.exp (.mu .append 3 [(.op (.bin .Sub) [(.var 7), (.var 4)])])), (.asg (.name 4 false) (.var 7))]),
  (.reto 3)]
def b17 : List S := [(.asg (.tup [(.name 5 false), (.name 6 false), (.name 7 false)]) (.call 8 [false] [(.var 0)])),
  (.ite (.op (.cmp .Gt) [(.var 5), (.op (.bin .Add) [(.var 1), (.var 7)])]) [(.ret (.lit .non))] []),
  (.asg (.name 2 false) (.op (.bin .Sub) [(.var 1), (.var 5)])),
  (.asg (.name 3 false) (.lc [8] (.name 8 false) .it [(.var 0)] [] (.ife (.op (.cmp .Eq) [(.op .ix [(.var 8), (.lit (.int 0))]), (.lit (.str "box"))]) (.lit (.int 0)) (.ife (.op (.cmp .GtE) [(.var 2), (.lit (.int 0))]) (.op .ix [(.var 8), (.lit (.int 2))]) (.op .ix [(.var 8), (.lit (.int 3))]))))),
  (.asg (.name 4 false) (.call 16 [false, false] [(.op .abs [(.var 2)]), (.var 3)])),
  (.ret (.lc [8, 9] (.tup [(.name 8 false), (.name 9 false)]) .zip [(.var 0), (.var 4)] [] (.op (.bin .Add) [(.op .ix [(.var 8), (.lit (.int 1))]), (.ife (.op (.cmp .GtE) [(.var 2), (.lit (.int 0))]) (.var 9) (.op .neg [(.var 9)]))])))]
def b18 : List S := [(.exp (.call 1 [false] [(.var 0)])),
  (.exp (.call 7 [false, false, false] [(.var 0), (.var 1), (.var 2)])),
  (.exp (.call 9 [false] [(.var 3)])),
  (.ret (.call 19 [false, false] [(.call 6 [false, false, false] [(.var 0), (.var 1), (.var 2)]), (.var 3)]))]
def b19 : List S := [(.asg (.name 2 false) (.call 17 [false, false] [(.var 0), (.var 1)])),
  (.ite (.op (.cmp .Is) [(.var 2), (.lit .non)]) [(.ret (.lit .non))] []),
  (.asg (.name 3 true) (.mk .lst [])),
  (.asg (.name 4 false) (.lit (.int 0))),
  (.for (.name 5 false) .it [(.var 2)] [(.exp (.mu .append 3 [(.mk .tup [(.var 4), (.var 5)])])), (.aug 4 .Add (.var 5))]),
  (.ret (.op .tuple [(.var 3)]))]
def b20 : List S := [(.exp (.call 1 [false] [(.var 0)])),
  (.exp (.call 7 [false, false, false] [(.var 0), (.var 1), (.var 2)])),
  (.exp (.call 9 [false] [(.var 3)])),
  (.asg (.name 5 false) (.call 6 [false, false, false] [(.var 0), (.var 1), (.var 2)])),
  (.ite (.or (.ife (.op (.isi "tuple") [(.var 4)]) (.lit (.bl false)) (.lit (.bl true))) (.op (.cmp .NotEq) [(.op .len [(.var 4)]), (.op .len [(.var 5)])])) [(.raise "" (.lit .non))] []),
  (.for (.name 6 false) .it [(.var 4)] [(.ite (.or (.ife (.op (.isi "tuple") [(.var 6)]) (.lit (.bl false)) (.lit (.bl true))) (.or (.op (.cmp .NotEq) [(.op .len [(.var 6)]), (.lit (.int 2))]) (.ife (.op .all [(.lc [11] (.name 11 false) .it [(.var 6)] [] (.call 0 [false] [(.var 11)]))]) (.lit (.bl false)) (.lit (.bl true))))) [(.raise "" (.lit .non))] [])]),
  (.asg (.name 7 false) (.lit (.int 0))),
  (.for (.tup [(.name 8 false), (.name 6 false)]) .zip [(.var 5), (.var 4)] [(.ite (.op (.cmp .NotEq) [(.op .ix [(.var 6), (.lit (.int 0))]), (.var 7)]) [(.raise "" (.lit .non))] []), (.aug 7 .Add (.op .ix [(.var 6), (.lit (.int 1))])), (.ite (.ife (.call 21 [false, false] [(.var 8), (.op .ix [(.var 6), (.lit (.int 1))])]) (.lit (.bl false)) (.lit (.bl true))) [(.raise "" (.lit .non))] [])]),
  (.asg (.tup [(.name 6 false), (.name 9 false), (.name 10 false)]) (.call 8 [false] [(.var 5)])),
  (.ite (.and (.op (.cmp .NotEq) [(.var 7), (.var 3)]) (.or (.op (.cmp .Gt) [(.var 6), (.var 3)]) (.or (.op (.cmp .Gt) [(.var 9), (.lit (.int 0))]) (.op (.cmp .NotEq) [(.var 7), (.var 6)])))) [(.raise "" (.lit .non))] [])]
def b21 : List S := [(.ite (.op (.cmp .Eq) [(.op .ix [(.var 0), (.lit (.int 0))]), (.lit (.str "box"))]) [(.ret (.op (.cmp .Eq) [(.var 1), (.op .ix [(.var 0), (.lit (.int 1))])]))] []),
  (.ret (.and (.op (.cmp .GtE) [(.var 1), (.op (.bin .Sub) [(.op .ix [(.var 0), (.lit (.int 1))]), (.op .ix [(.var 0), (.lit (.int 3))])])]) (.or (.op (.cmp .LtE) [(.var 1), (.op .ix [(.var 0), (.lit (.int 1))])]) (.op (.cmp .Gt) [(.op .ix [(.var 0), (.lit (.int 2))]), (.lit (.int 0))]))))]
def b22 : List S := [(.exp (.call 1 [false] [(.var 0)])),
  (.exp (.call 7 [false, false, false] [(.var 0), (.var 1), (.var 2)])),
  (.exp (.call 9 [false] [(.var 3)])),
  (.asg (.tup [(.name 4 false), (.name 5 false), (.name 6 false)]) (.call 8 [false] [(.call 6 [false, false, false] [(.var 0), (.var 1), (.var 2)])])),
  (.ite (.op (.cmp .Gt) [(.var 4), (.op (.bin .Add) [(.var 3), (.var 6)])]) [(.ret (.lit (.str "wide")))] []),
  (.ret (.ife (.op (.cmp .Lt) [(.var 4), (.var 3)]) (.lit (.str "loose")) (.ife (.op (.cmp .Eq) [(.var 4), (.var 3)]) (.lit (.str "full")) (.lit (.str "tight")))))]
def b23 : List S := [(.exp (.call 1 [false] [(.var 0)])),
  (.exp (.call 7 [false, false, false] [(.var 0), (.var 1), (.var 2)])),
  (.exp (.call 9 [false] [(.var 3)])),
  (.ret (.call 24 [false, false] [(.call 8 [false] [(.call 6 [false, false, false] [(.var 0), (.var 1), (.var 2)])]), (.var 3)]))]
def b24 : List S := [(.asg (.tup [(.name 2 false), (.name 3 false), (.name 4 false)]) (.var 0)),
  (.ite (.op (.cmp .Gt) [(.var 2), (.op (.bin .Add) [(.var 1), (.var 4)])]) [(.ret (.lit .non))] []),
  (.ite (.op (.cmp .Gt) [(.var 2), (.var 1)]) [(.ret (.ife (.op (.cmp .Gt) [(.op (.bin .Mult) [(.lit (.int 2)), (.op (.bin .Sub) [(.var 2), (.var 1)])]), (.var 4)]) (.lit (.int 0)) (.lit (.int 1))))] []),
  (.ite (.op (.cmp .LtE) [(.op (.bin .Mult) [(.lit (.int 2)), (.op (.bin .Sub) [(.var 1), (.var 2)])]), (.var 3)]) [(.ret (.lit (.int 1)))] []),
  (.ret (.ife (.op (.cmp .LtE) [(.op (.bin .Sub) [(.var 1), (.var 2)]), (.var 3)]) (.lit (.int 2)) (.lit (.int 3))))]
def b25 : List S := [(.asg (.name 1 false) (.lit (.int 7))),
  (.for (.name 2 false) .it [(.var 0)] [(.asg (.name 1 false) (.op (.bin .Add) [(.op (.bin .Mod) [(.op .int [(.op (.bin .Add) [(.op (.bin .Mult) [(.var 1), (.lit (.int 48271))]), (.var 2)])]), (.lit (.int 2147483629))]), (.lit (.int 1))]))]),
  (.ret (.mk .lst [(.op .list [(.var 0)]), (.lit (.int 0)), (.lit (.int 0)), (.var 1)]))]
def b26 : List S := [(.ite (.and (.op (.cmp .Eq) [(.op .ix [(.var 0), (.lit (.int 1))]), (.lit (.int 0))]) (.op (.cmp .GtE) [(.op .ix [(.var 0), (.lit (.int 2))]), (.op .len [(.op .ix [(.var 0), (.lit (.int 0))])])])) [(.seti 0 (.lit (.int 3)) (.op (.bin .Mod) [(.op .int [(.op (.bin .Add) [(.op (.bin .Mult) [(.op .ix [(.var 0), (.lit (.int 3))]), (.lit (.int 48271))]), (.lit (.int 69621))])]), (.lit (.int 2147483629))])), (.ret (.op (.bin .Mod) [(.op .int [(.op (.bin .FloorDiv) [(.op .ix [(.var 0), (.lit (.int 3))]), (.lit (.int 13))])]), (.var 1)]))] []),
  (.ite (.op (.cmp .Eq) [(.op .ix [(.var 0), (.lit (.int 1))]), (.lit (.int 0))]) [(.seti 0 (.lit (.int 1)) (.op .abs [(.op .ix [(.op .ix [(.var 0), (.lit (.int 0))]), (.op .ix [(.var 0), (.lit (.int 2))])])])), (.seti 0 (.lit (.int 2)) (.op (.bin .Add) [(.op .ix [(.var 0), (.lit (.int 2))]), (.lit (.int 1))]))] []),
  (.asg (.name 2 false) (.op (.bin .Mod) [(.op .int [(.op .ix [(.var 0), (.lit (.int 1))])]), (.var 1)])),
  (.seti 0 (.lit (.int 1)) (.op (.bin .FloorDiv) [(.op .ix [(.var 0), (.lit (.int 1))]), (.var 1)])),
  (.reto 2)]
def b27 : List S := [(.ret (.op .ix [(.var 1), (.call 26 [true, false] [(.var 0), (.op .len [(.var 1)])])]))]
def b28 : List S := [(.ret (.and (.op (.cmp .Eq) [(.var 0), (.var 1)]) (.op (.cmp .Eq) [(.op .repr [(.var 0)]), (.op .repr [(.var 1)])])))]
def b29 : List S := [(.par [(4, true), (5, false)] [(.mk .lst []), (.call 27 [true, false] [(.var 0), (.mk .lst [(.lit (.int 4)), (.lit (.int 30)), (.lit (.int 100000))])])]),
  (.asg (.name 2 false) (.call 26 [true, false] [(.var 0), (.lit (.int 3))])),
  (.for (.name 3 false) .rng [(.call 26 [true, false] [(.var 0), (.var 1)])] [(.asg (.name 6 false) (.ife (.op (.cmp .Eq) [(.var 2), (.lit (.int 0))]) (.op (.bin .BitAnd) [(.var 3), (.lit (.int 1))]) (.call 26 [true, false] [(.var 0), (.lit (.int 4))]))), (.ite (.or (.op (.cmp .Eq) [(.var 6), (.lit (.int 0))]) (.and (.op (.cmp .Eq) [(.var 6), (.lit (.int 3))]) (.op (.cmp .Eq) [(.var 2), (.lit (.int 1))]))) [(.exp (.mu .append 4 [(.mk .tup [(.lit (.str "box")), (.call 26 [true, false] [(.var 0), (.op (.bin .Add) [(.var 5), (.lit (.int 1))])])])]))] [(.ite (.op (.cmp .Eq) [(.var 6), (.lit (.int 1))]) [(.exp (.mu .append 4 [(.mk .tup [(.lit (.str "spring")), (.call 26 [true, false] [(.var 0), (.op (.bin .Add) [(.op (.bin .FloorDiv) [(.var 5), (.lit (.int 3))]), (.lit (.int 1))])]), (.call 26 [true, false] [(.var 0), (.op (.bin .Add) [(.op (.bin .FloorDiv) [(.var 5), (.lit (.int 2))]), (.lit (.int 1))])]), (.call 26 [true, false] [(.var 0), (.op (.bin .Add) [(.op (.bin .FloorDiv) [(.var 5), (.lit (.int 4))]), (.lit (.int 1))])])])]))] [(.asg (.name 7 false) (.call 27 [true, false] [(.var 0), (.mk .lst [(.lit (.int 0)), (.lit (.int 50)), (.op .neg [(.lit (.int 50))]), (.lit (.int 10000)), (.lit (.int 9999)), (.op .neg [(.lit (.int 9999))]), (.ife (.op (.cmp .Eq) [(.var 2), (.lit (.int 2))]) (.op .neg [(.lit (.int 10000))]) (.lit (.int 1))), (.op (.bin .Sub) [(.call 26 [true, false] [(.var 0), (.lit (.int 20001))]), (.lit (.int 10000))])])])), (.exp (.mu .append 4 [(.mk .tup [(.lit (.str "fine")), (.var 7), (.call 27 [true, false] [(.var 0), (.mk .lst [(.lit (.int 0)), (.lit (.int 0)), (.call 26 [true, false] [(.var 0), (.op (.bin .Add) [(.op (.bin .FloorDiv) [(.var 5), (.lit (.int 4))]), (.lit (.int 1))])])])]), (.op (.cmp .Eq) [(.call 26 [true, false] [(.var 0), (.lit (.int 2))]), (.lit (.int 0))])])]))])])]),
  (.ret (.op (.bin .Add) [(.op .tuple [(.var 4)]), (.mk .tup [(.mk .tup [(.lit (.str "fine")), (.op .neg [(.lit (.int 10000))]), (.call 27 [true, false] [(.var 0), (.mk .lst [(.lit (.int 0)), (.lit (.int 0)), (.lit (.int 0)), (.lit (.int 2))])]), (.op (.cmp .Eq) [(.call 26 [true, false] [(.var 0), (.lit (.int 4))]), (.lit (.int 0))])])])]))]
def b30 : List S := [(.ret (.and (.op (.cmp .Eq) [(.op .ix [(.op .ix [(.var 0), (.var 1)]), (.lit (.int 0))]), (.lit (.str "fine"))]) (.op (.cmp .Eq) [(.op .ix [(.op .ix [(.var 0), (.var 1)]), (.lit (.int 1))]), (.op .neg [(.lit (.int 10000))])])))]
def b31 : List S := [(.asg (.name 1 true) (.mk .lst [])),
  (.for (.name 2 false) .rng [(.op .len [(.var 0)])] [(.ite (.or (.and (.op (.cmp .Eq) [(.op .ix [(.op .ix [(.var 0), (.var 2)]), (.lit (.int 0))]), (.lit (.str "fine"))]) (.op (.cmp .Lt) [(.op .ix [(.op .ix [(.var 0), (.var 2)]), (.lit (.int 1))]), (.lit (.int 10000))])) (.and (.op (.cmp .Eq) [(.op .ix [(.op .ix [(.var 0), (.var 2)]), (.lit (.int 0))]), (.lit (.str "spring"))]) (.and (.op (.cmp .Gt) [(.var 2), (.lit (.int 0))]) (.op (.cmp .Eq) [(.op .ix [(.op .ix [(.var 0), (.op (.bin .Sub) [(.var 2), (.lit (.int 1))])]), (.lit (.int 0))]), (.lit (.str "box"))])))) [(.exp (.mu .append 1 [(.var 2)]))] [])]),
  (.reto 1)]
def b32 : List S := [(.asg (.name 2 false) (.op (.bin .Add) [(.var 1), (.lit (.int 1))])),
  (.whl (.and (.op (.cmp .GtE) [(.var 1), (.lit (.int 0))]) (.and (.op (.cmp .Lt) [(.var 2), (.op .len [(.var 0)])]) (.and (.op (.cmp .NotEq) [(.op .ix [(.op .ix [(.var 0), (.var 2)]), (.lit (.int 0))]), (.lit (.str "box"))]) (.ife (.call 30 [false, false] [(.var 0), (.var 2)]) (.lit (.bl false)) (.lit (.bl true)))))) [(.asg (.name 2 false) (.op (.bin .Add) [(.var 2), (.lit (.int 1))]))]),
  (.reto 2)]
def b33 : List S := [(.asg (.name 3 false) (.op .tuple [(.lc [4] (.name 4 false) .it [(.op (.sl true true) [(.var 0), (.op .ck [(.call 32 [false, false] [(.var 0), (.var 1)])]), (.op .ck [(.var 2)])])] [(.op (.cmp .NotEq) [(.op .ix [(.var 4), (.lit (.int 0))]), (.lit (.str "fine"))])] (.var 4))])),
  (.ret (.op (.bin .Add) [(.var 3), (.ife (.and (.op (.cmp .Eq) [(.op .ix [(.op .ix [(.var 0), (.var 2)]), (.lit (.int 0))]), (.lit (.str "fine"))]) (.op (.cmp .Gt) [(.op .ix [(.op .ix [(.var 0), (.var 2)]), (.lit (.int 2))]), (.lit (.int 0))])) (.mk .tup [(.mk .tup [(.lit (.str "box")), (.op .ix [(.op .ix [(.var 0), (.var 2)]), (.lit (.int 2))])])]) (.mk .tup []))]))]
def b34 : List S := [(.asg (.name 1 false) (.lc [2] (.name 2 false) .it [(.var 0)] [(.op (.cmp .Eq) [(.op .ix [(.var 2), (.lit (.int 0))]), (.lit (.str "spring"))])] (.var 2))),
  (.ret (.mk .tup [(.op .sum [(.lc [2] (.name 2 false) .it [(.var 0)] [] (.op .ix [(.var 2), (.lit (.int 1))]))]), (.op .sum [(.lc [2] (.name 2 false) .it [(.var 1)] [] (.op .ix [(.var 2), (.lit (.int 2))]))]), (.op .sum [(.lc [2] (.name 2 false) .it [(.var 1)] [] (.op .ix [(.var 2), (.lit (.int 3))]))])]))]
def b35 : List S := [(.ite (.or (.op (.cmp .Eq) [(.var 0), (.lit (.int 0))]) (.op (.cmp .Eq) [(.var 1), (.lit (.int 0))])) [(.ret (.ife (.op (.cmp .Eq) [(.var 0), (.lit (.int 0))]) (.lit (.int 0)) (.lit (.int 10000))))] []),
  (.ret (.op .min [(.mk .lst [(.lit (.int 10000)), (.op (.bin .FloorDiv) [(.op (.bin .Mult) [(.op (.bin .Mult) [(.op (.bin .Mult) [(.lit (.int 100)), (.var 0)]), (.var 0)]), (.var 0)]), (.op (.bin .Mult) [(.op (.bin .Mult) [(.var 1), (.var 1)]), (.var 1)])])])]))]
def b36 : List S := [(.asg (.tup [(.name 2 false), (.name 3 false), (.name 4 false)]) (.var 0)),
  (.ite (.op (.cmp .Gt) [(.op (.bin .Sub) [(.var 2), (.var 4)]), (.var 1)]) [(.ret (.lit .non))] []),
  (.ret (.ife (.op (.cmp .LtE) [(.var 2), (.var 1)]) (.call 35 [false, false] [(.op (.bin .Sub) [(.var 1), (.var 2)]), (.var 3)]) (.call 35 [false, false] [(.op (.bin .Sub) [(.var 2), (.var 1)]), (.var 4)])))]
def b37 : List S := [(.asg (.tup [(.name 3 false), (.name 4 false), (.name 5 false)]) (.var 0)),
  (.ite (.op (.cmp .Gt) [(.op (.bin .Sub) [(.var 3), (.var 5)]), (.var 1)]) [(.ret (.lit .non))] []),
  (.ite (.op (.cmp .Gt) [(.var 3), (.var 1)]) [(.ret (.ife (.op (.cmp .Gt) [(.op (.bin .Mult) [(.lit (.int 2)), (.op (.bin .Sub) [(.var 3), (.var 1)])]), (.var 5)]) (.lit (.int 0)) (.lit (.int 1))))] []),
  (.asg (.name 2 false) (.op (.bin .Sub) [(.var 1), (.var 3)])),
  (.ret (.ife (.op (.cmp .LtE) [(.op (.bin .Mult) [(.lit (.int 2)), (.var 2)]), (.var 4)]) (.lit (.int 1)) (.ife (.op (.cmp .LtE) [(.var 2), (.var 4)]) (.lit (.int 2)) (.lit (.int 3)))))]
def b38 : List S := [(.asg (.tup [(.name 4 false), (.name 5 false), (.name 6 false)]) (.call 34 [false] [(.var 0)])),
  (.ite (.op (.cmp .Gt) [(.op (.bin .Sub) [(.var 4), (.var 6)]), (.var 1)]) [(.ret (.lit .non))] []),
  (.par [(7, false), (8, true), (9, false), (10, false), (11, false)] [(.op (.bin .Sub) [(.var 1), (.var 4)]), (.mk .lst []), (.lit (.int 0)), (.lit (.int 0)), (.lit (.int 0))]),
  (.asg (.name 2 false) (.ife (.op (.cmp .GtE) [(.var 7), (.lit (.int 0))]) (.var 5) (.var 6))),
  (.for (.name 3 false) .it [(.var 0)] [(.asg (.name 12 false) (.op .ix [(.var 3), (.lit (.int 1))])), (.ite (.op (.cmp .Eq) [(.op .ix [(.var 3), (.lit (.int 0))]), (.lit (.str "spring"))]) [(.asg (.name 10 false) (.op (.bin .Add) [(.var 10), (.ife (.op (.cmp .GtE) [(.var 7), (.lit (.int 0))]) (.op .ix [(.var 3), (.lit (.int 2))]) (.op .ix [(.var 3), (.lit (.int 3))]))])), (.asg (.name 13 false) (.ife (.op (.cmp .Gt) [(.var 2), (.lit (.int 0))]) (.op (.bin .FloorDiv) [(.op (.bin .Mult) [(.op .abs [(.var 7)]), (.var 10)]), (.var 2)]) (.lit (.int 0)))), (.asg (.name 12 false) (.op (.bin .Add) [(.var 12), (.ife (.op (.cmp .GtE) [(.var 7), (.lit (.int 0))]) (.op (.bin .Sub) [(.var 13), (.var 11)]) (.op (.bin .Sub) [(.var 11), (.var 13)]))])), (.asg (.name 11 false) (.var 13))] []), (.exp (.mu .append 8 [(.mk .tup [(.var 9), (.var 12)])])), (.asg (.name 9 false) (.op (.bin .Add) [(.var 9), (.var 12)]))]),
  (.ret (.op .tuple [(.var 8)]))]
def b39 : List S := [(.asg (.name 1 true) (.call 25 [false] [(.var 0)])),
  (.for (.name 2 false) .rng [(.lit (.int 3))] [(.asg (.name 3 false) (.call 29 [true, false] [(.var 1), (.call 27 [true, false] [(.var 1), (.mk .lst [(.lit (.int 6)), (.lit (.int 20)), (.lit (.int 60))])])])), (.asg (.name 4 false) (.call 31 [false] [(.var 3)])), (.for (.name 5 false) .rng [(.lit (.int 8))] [(.asg (.name 6 false) (.call 27 [true, false] [(.var 1), (.var 4)])), (.asg (.name 7 false) (.call 27 [true, false] [(.var 1), (.op (.bin .Add) [(.mk .lst [(.op .neg [(.lit (.int 1))])]), (.lc [18] (.name 18 false) .it [(.var 4)] [(.op (.cmp .Lt) [(.var 18), (.var 6)])] (.var 18))])])), (.asg (.name 8 false) (.call 33 [false, false, false] [(.var 3), (.var 7), (.var 6)])), (.asg (.name 9 false) (.call 34 [false] [(.var 8)])), (.asg (.name 10 false) (.mk .lst [(.op .ix [(.var 9), (.lit (.int 0))]), (.op (.bin .Add) [(.op .ix [(.var 9), (.lit (.int 0))]), (.lit (.int 1))]), (.op (.bin .Sub) [(.op .ix [(.var 9), (.lit (.int 0))]), (.lit (.int 1))]), (.op (.bin .Sub) [(.op .ix [(.var 9), (.lit (.int 0))]), (.op .ix [(.var 9), (.lit (.int 2))])]), (.op (.bin .Sub) [(.op (.bin .Sub) [(.op .ix [(.var 9), (.lit (.int 0))]), (.op .ix [(.var 9), (.lit (.int 2))])]), (.lit (.int 1))]), (.op (.bin .Add) [(.op .ix [(.var 9), (.lit (.int 0))]), (.op .ix [(.var 9), (.lit (.int 1))])]), (.op (.bin .Add) [(.op .ix [(.var 9), (.lit (.int 0))]), (.op (.bin .FloorDiv) [(.op .ix [(.var 9), (.lit (.int 1))]), (.lit (.int 2))])]), (.op (.bin .Sub) [(.op .ix [(.var 9), (.lit (.int 0))]), (.op (.bin .FloorDiv) [(.op .ix [(.var 9), (.lit (.int 2))]), (.lit (.int 2))])]), (.op (.bin .Add) [(.op .ix [(.var 9), (.lit (.int 0))]), (.op (.bin .Mult) [(.lit (.int 2)), (.op .ix [(.var 9), (.lit (.int 1))])])])])), (.asg (.name 11 false) (.op .max [(.mk .lst [(.lit (.int 1)), (.op .min [(.mk .lst [(.lit (.int 100000)), (.call 27 [true, false] [(.var 1), (.op (.bin .Add) [(.op (.bin .Add) [(.var 10), (.var 10)]), (.mk .lst [(.call 26 [true, false] [(.var 1), (.lit (.int 100001))])])])])])])])])), (.asg (.name 12 false) (.mk .lst [(.call 13 [false, false, false, false] [(.var 3), (.var 7), (.var 6), (.var 11)]), (.call 23 [false, false, false, false] [(.var 3), (.var 7), (.var 6), (.var 11)]), (.call 18 [false, false, false, false] [(.var 3), (.var 7), (.var 6), (.var 11)])])), (.asg (.name 13 false) (.call 38 [false, false] [(.var 8), (.var 11)])), (.ite (.ife (.call 28 [false, false] [(.var 12), (.mk .lst [(.call 36 [false, false] [(.var 9), (.var 11)]), (.call 37 [false, false] [(.var 9), (.var 11)]), (.var 13)])]) (.lit (.bl false)) (.lit (.bl true))) [(.ret (.lit (.bl false)))] []), (.asg (.name 14 false) (.ife (.op (.cmp .Is) [(.var 13), (.lit .non)]) (.lit (.str "wide")) (.ife (.op (.cmp .Lt) [(.op .ix [(.var 9), (.lit (.int 0))]), (.var 11)]) (.lit (.str "loose")) (.ife (.op (.cmp .Eq) [(.op .ix [(.var 9), (.lit (.int 0))]), (.var 11)]) (.lit (.str "full")) (.lit (.str "tight")))))), (.ite (.ife (.call 28 [false, false] [(.call 22 [false, false, false, false] [(.var 3), (.var 7), (.var 6), (.var 11)]), (.var 14)]) (.lit (.bl false)) (.lit (.bl true))) [(.ret (.lit (.bl false)))] []), (.ite (.op (.cmp .IsNot) [(.var 13), (.lit .non)]) [(.asg (.name 17 false) (.ife (.op .tru [(.var 13)]) (.op (.bin .Add) [(.op .ix [(.op .ix [(.var 13), (.op .neg [(.lit (.int 1))])]), (.lit (.int 0))]), (.op .ix [(.op .ix [(.var 13), (.op .neg [(.lit (.int 1))])]), (.lit (.int 1))])]) (.lit (.int 0)))), (.ite (.or (.op (.cmp .NotEq) [(.var 17), (.ife (.or (.op (.cmp .Gt) [(.op .ix [(.var 9), (.lit (.int 0))]), (.var 11)]) (.op (.cmp .Gt) [(.op .ix [(.var 9), (.lit (.int 1))]), (.lit (.int 0))])) (.var 11) (.op .ix [(.var 9), (.lit (.int 0))]))]) (.op (.cmp .IsNot) [(.call 20 [false, false, false, false, false] [(.var 3), (.var 7), (.var 6), (.var 11), (.var 13)]), (.lit .non)])) [(.ret (.lit (.bl false)))] [])] [])]), (.par [(15, false), (16, false)] [(.call 27 [true, false] [(.var 1), (.mk .lst [(.lit (.int 0)), (.lit (.int 1)), (.lit (.int 12000000)), (.call 26 [true, false] [(.var 1), (.lit (.int 99))])])]), (.call 27 [true, false] [(.var 1), (.mk .lst [(.lit (.int 0)), (.lit (.int 1)), (.lit (.int 12000000)), (.op (.bin .Add) [(.lit (.int 1)), (.call 26 [true, false] [(.var 1), (.lit (.int 99))])])])])]), (.ite (.ife (.call 28 [false, false] [(.call 15 [false, false] [(.var 15), (.var 16)]), (.call 35 [false, false] [(.var 15), (.var 16)])]) (.lit (.bl false)) (.lit (.bl true))) [(.ret (.lit (.bl false)))] [])]),
  (.ret (.lit (.bl true)))]
theorem c0 : mapO (cmpS 60 g0) (defBody (tp 6)) = some b0 := by rfl
theorem c1 : mapO (cmpS 60 g1) (defBody (tp 13)) = some b1 := by rfl
theorem c2 : mapO (cmpS 60 g2) (defBody (tp 14)) = some b2 := by rfl
theorem c3 : mapO (cmpS 60 g3) (defBody (tp 15)) = some b3 := by rfl
theorem c4 : mapO (cmpS 60 g4) (defBody (tp 16)) = some b4 := by rfl
theorem c5 : mapO (cmpS 60 g5) (defBody (tp 17)) = some b5 := by rfl
theorem c6 : mapO (cmpS 60 g6) (defBody (tp 18)) = some b6 := by rfl
theorem c7 : mapO (cmpS 60 g7) (defBody (tp 19)) = some b7 := by rfl
theorem c8 : mapO (cmpS 60 g8) (defBody (tp 20)) = some b8 := by rfl
theorem c9 : mapO (cmpS 60 g9) (defBody (tp 22)) = some b9 := by rfl
theorem c10 : mapO (cmpS 60 g10) (defBody (tp 23)) = some b10 := by rfl
theorem c11 : mapO (cmpS 60 g11) (defBody (tp 24)) = some b11 := by rfl
theorem c12 : mapO (cmpS 60 g12) (defBody (tp 25)) = some b12 := by rfl
theorem c13 : mapO (cmpS 60 g13) (defBody (tp 26)) = some b13 := by rfl
theorem c14 : mapO (cmpS 60 g14) (defBody (tp 27)) = some b14 := by rfl
theorem c15 : mapO (cmpS 60 g15) (defBody (tp 28)) = some b15 := by rfl
theorem c16 : mapO (cmpS 60 g16) (defBody (tp 29)) = some b16 := by rfl
theorem c17 : mapO (cmpS 60 g17) (defBody (tp 30)) = some b17 := by rfl
theorem c18 : mapO (cmpS 60 g18) (defBody (tp 31)) = some b18 := by rfl
theorem c19 : mapO (cmpS 60 g19) (defBody (tp 32)) = some b19 := by rfl
theorem c20 : mapO (cmpS 60 g20) (defBody (tp 33)) = some b20 := by rfl
theorem c21 : mapO (cmpS 60 g21) (defBody (tp 34)) = some b21 := by rfl
theorem c22 : mapO (cmpS 60 g22) (defBody (tp 35)) = some b22 := by rfl
theorem c23 : mapO (cmpS 60 g23) (defBody (tp 36)) = some b23 := by rfl
theorem c24 : mapO (cmpS 60 g24) (defBody (tp 37)) = some b24 := by rfl
theorem c25 : mapO (cmpS 60 g25) (defBody (tp 39)) = some b25 := by rfl
theorem c26 : mapO (cmpS 60 g26) (defBody (tp 40)) = some b26 := by rfl
theorem c27 : mapO (cmpS 60 g27) (defBody (tp 41)) = some b27 := by rfl
theorem c28 : mapO (cmpS 60 g28) (defBody (tp 42)) = some b28 := by rfl
theorem c29 : mapO (cmpS 60 g29) (defBody (tp 43)) = some b29 := by rfl
theorem c30 : mapO (cmpS 60 g30) (defBody (tp 44)) = some b30 := by rfl
theorem c31 : mapO (cmpS 60 g31) (defBody (tp 45)) = some b31 := by rfl
theorem c32 : mapO (cmpS 60 g32) (defBody (tp 46)) = some b32 := by rfl
theorem c33 : mapO (cmpS 60 g33) (defBody (tp 47)) = some b33 := by rfl
theorem c34 : mapO (cmpS 60 g34) (defBody (tp 48)) = some b34 := by rfl
theorem c35 : mapO (cmpS 60 g35) (defBody (tp 49)) = some b35 := by rfl
theorem c36 : mapO (cmpS 60 g36) (defBody (tp 50)) = some b36 := by rfl
theorem c37 : mapO (cmpS 60 g37) (defBody (tp 51)) = some b37 := by rfl
theorem c38 : mapO (cmpS 60 g38) (defBody (tp 52)) = some b38 := by rfl
theorem c39 : mapO (cmpS 60 g39) (defBody (tp 53)) = some b39 := by rfl
def tab : Tab := [(⟨"is_integer", [false]⟩, ⟨[false], 1, false, b0⟩),
  (⟨"check_items", [false]⟩, ⟨[false], 2, false, b1⟩),
  (⟨"check_item", [false]⟩, ⟨[false], 3, false, b2⟩),
  (⟨"may_break", [false, false]⟩, ⟨[false, false], 2, false, b3⟩),
  (⟨"must_break", [false, false]⟩, ⟨[false, false], 2, false, b4⟩),
  (⟨"begin_behind", [false, false]⟩, ⟨[false, false], 3, false, b5⟩),
  (⟨"line_items", [false, false, false]⟩, ⟨[false, false, false], 5, false, b6⟩),
  (⟨"check_break", [false, false, false]⟩, ⟨[false, false, false], 3, false, b7⟩),
  (⟨"sums_of", [false]⟩, ⟨[false], 4, false, b8⟩),
  (⟨"check_width", [false]⟩, ⟨[false], 1, false, b9⟩),
  (⟨"badness", [false, false]⟩, ⟨[false, false], 2, false, b10⟩),
  (⟨"bad_of", [false, false]⟩, ⟨[false, false], 2, false, b11⟩),
  (⟨"bad_of_sums", [false, false]⟩, ⟨[false, false], 5, false, b12⟩),
  (⟨"line_badness", [false, false, false, false]⟩, ⟨[false, false, false, false], 4, false, b13⟩),
  (⟨"check_gap", [false, false]⟩, ⟨[false, false], 2, false, b14⟩),
  (⟨"badness_of", [false, false]⟩, ⟨[false, false], 2, false, b15⟩),
  (⟨"shares", [false, false]⟩, ⟨[false, false], 8, false, b16⟩),
  (⟨"set_row", [false, false]⟩, ⟨[false, false], 10, false, b17⟩),
  (⟨"set_line", [false, false, false, false]⟩, ⟨[false, false, false, false], 4, false, b18⟩),
  (⟨"placed", [false, false]⟩, ⟨[false, false], 6, false, b19⟩),
  (⟨"accept_set", [false, false, false, false, false]⟩, ⟨[false, false, false, false, false], 12, false, b20⟩),
  (⟨"lets", [false, false]⟩, ⟨[false, false], 2, false, b21⟩),
  (⟨"is_tight", [false, false, false, false]⟩, ⟨[false, false, false, false], 7, false, b22⟩),
  (⟨"class_of", [false, false, false, false]⟩, ⟨[false, false, false, false], 4, false, b23⟩),
  (⟨"class_of_sums", [false, false]⟩, ⟨[false, false], 5, false, b24⟩),
  (⟨"_law_start", [false]⟩, ⟨[false], 3, true, b25⟩),
  (⟨"_law_draw", [true, false]⟩, ⟨[true, false], 3, false, b26⟩),
  (⟨"_law_pick", [true, false]⟩, ⟨[true, false], 2, false, b27⟩),
  (⟨"_law_same", [false, false]⟩, ⟨[false, false], 2, false, b28⟩),
  (⟨"_law_items", [true, false]⟩, ⟨[true, false], 8, false, b29⟩),
  (⟨"_law_must", [false, false]⟩, ⟨[false, false], 2, false, b30⟩),
  (⟨"_law_places", [false]⟩, ⟨[false], 3, false, b31⟩),
  (⟨"_law_begin", [false, false]⟩, ⟨[false, false], 3, false, b32⟩),
  (⟨"_law_line", [false, false, false]⟩, ⟨[false, false, false], 5, false, b33⟩),
  (⟨"_law_sums", [false]⟩, ⟨[false], 3, false, b34⟩),
  (⟨"_law_bad", [false, false]⟩, ⟨[false, false], 2, false, b35⟩),
  (⟨"_law_bad_of", [false, false]⟩, ⟨[false, false], 5, false, b36⟩),
  (⟨"_law_class", [false, false]⟩, ⟨[false, false], 6, false, b37⟩),
  (⟨"_law_set", [false, false]⟩, ⟨[false, false], 14, false, b38⟩),
  (⟨"law", [false]⟩, ⟨[false], 19, false, b39⟩)]
theorem fns_tab : fns = tab.map (·.1) := rfl
theorem s0 : FnScope g0.N ["value"] (defScope (tp 6)) := ⟨rfl, rfl, rfl, by decide +kernel, rfl, by decide +kernel, by decide +kernel⟩
theorem s1 : FnScope g1.N ["items"] (defScope (tp 13)) := ⟨rfl, rfl, rfl, by decide +kernel, rfl, by decide +kernel, by decide +kernel⟩
theorem s2 : FnScope g2.N ["item"] (defScope (tp 14)) := ⟨rfl, rfl, rfl, by decide +kernel, rfl, by decide +kernel, by decide +kernel⟩
theorem s3 : FnScope g3.N ["items", "at"] (defScope (tp 15)) := ⟨rfl, rfl, rfl, by decide +kernel, rfl, by decide +kernel, by decide +kernel⟩
theorem s4 : FnScope g4.N ["items", "at"] (defScope (tp 16)) := ⟨rfl, rfl, rfl, by decide +kernel, rfl, by decide +kernel, by decide +kernel⟩
theorem s5 : FnScope g5.N ["items", "at"] (defScope (tp 17)) := ⟨rfl, rfl, rfl, by decide +kernel, rfl, by decide +kernel, by decide +kernel⟩
theorem s6 : FnScope g6.N ["items", "first", "last"] (defScope (tp 18)) := ⟨rfl, rfl, rfl, by decide +kernel, rfl, by decide +kernel, by decide +kernel⟩
theorem s7 : FnScope g7.N ["items", "first", "last"] (defScope (tp 19)) := ⟨rfl, rfl, rfl, by decide +kernel, rfl, by decide +kernel, by decide +kernel⟩
theorem s8 : FnScope g8.N ["row"] (defScope (tp 20)) := ⟨rfl, rfl, rfl, by decide +kernel, rfl, by decide +kernel, by decide +kernel⟩
theorem s9 : FnScope g9.N ["width"] (defScope (tp 22)) := ⟨rfl, rfl, rfl, by decide +kernel, rfl, by decide +kernel, by decide +kernel⟩
theorem s10 : FnScope g10.N ["gap", "give"] (defScope (tp 23)) := ⟨rfl, rfl, rfl, by decide +kernel, rfl, by decide +kernel, by decide +kernel⟩
theorem s11 : FnScope g11.N ["row", "width"] (defScope (tp 24)) := ⟨rfl, rfl, rfl, by decide +kernel, rfl, by decide +kernel, by decide +kernel⟩
theorem s12 : FnScope g12.N ["sums", "width"] (defScope (tp 25)) := ⟨rfl, rfl, rfl, by decide +kernel, rfl, by decide +kernel, by decide +kernel⟩
theorem s13 : FnScope g13.N ["items", "first", "last", "width"] (defScope (tp 26)) := ⟨rfl, rfl, rfl, by decide +kernel, rfl, by decide +kernel, by decide +kernel⟩
theorem s14 : FnScope g14.N ["gap", "give"] (defScope (tp 27)) := ⟨rfl, rfl, rfl, by decide +kernel, rfl, by decide +kernel, by decide +kernel⟩
theorem s15 : FnScope g15.N ["gap", "give"] (defScope (tp 28)) := ⟨rfl, rfl, rfl, by decide +kernel, rfl, by decide +kernel, by decide +kernel⟩
theorem s16 : FnScope g16.N ["gap", "gives"] (defScope (tp 29)) := ⟨rfl, rfl, rfl, by decide +kernel, rfl, by decide +kernel, by decide +kernel⟩
theorem s17 : FnScope g17.N ["row", "width"] (defScope (tp 30)) := ⟨rfl, rfl, rfl, by decide +kernel, rfl, by decide +kernel, by decide +kernel⟩
theorem s18 : FnScope g18.N ["items", "first", "last", "width"] (defScope (tp 31)) := ⟨rfl, rfl, rfl, by decide +kernel, rfl, by decide +kernel, by decide +kernel⟩
theorem s19 : FnScope g19.N ["row", "width"] (defScope (tp 32)) := ⟨rfl, rfl, rfl, by decide +kernel, rfl, by decide +kernel, by decide +kernel⟩
theorem s20 : FnScope g20.N ["items", "first", "last", "width", "rows"] (defScope (tp 33)) := ⟨rfl, rfl, rfl, by decide +kernel, rfl, by decide +kernel, by decide +kernel⟩
theorem s21 : FnScope g21.N ["item", "width"] (defScope (tp 34)) := ⟨rfl, rfl, rfl, by decide +kernel, rfl, by decide +kernel, by decide +kernel⟩
theorem s22 : FnScope g22.N ["items", "first", "last", "width"] (defScope (tp 35)) := ⟨rfl, rfl, rfl, by decide +kernel, rfl, by decide +kernel, by decide +kernel⟩
theorem s23 : FnScope g23.N ["items", "first", "last", "width"] (defScope (tp 36)) := ⟨rfl, rfl, rfl, by decide +kernel, rfl, by decide +kernel, by decide +kernel⟩
theorem s24 : FnScope g24.N ["sums", "width"] (defScope (tp 37)) := ⟨rfl, rfl, rfl, by decide +kernel, rfl, by decide +kernel, by decide +kernel⟩
theorem s25 : FnScope g25.N ["script"] (defScope (tp 39)) := ⟨rfl, rfl, rfl, by decide +kernel, rfl, by decide +kernel, by decide +kernel⟩
theorem s26 : FnScope g26.N ["state", "many"] (defScope (tp 40)) := ⟨rfl, rfl, rfl, by decide +kernel, rfl, by decide +kernel, by decide +kernel⟩
theorem s27 : FnScope g27.N ["state", "some"] (defScope (tp 41)) := ⟨rfl, rfl, rfl, by decide +kernel, rfl, by decide +kernel, by decide +kernel⟩
theorem s28 : FnScope g28.N ["actual", "due"] (defScope (tp 42)) := ⟨rfl, rfl, rfl, by decide +kernel, rfl, by decide +kernel, by decide +kernel⟩
theorem s29 : FnScope g29.N ["state", "most"] (defScope (tp 43)) := ⟨rfl, rfl, rfl, by decide +kernel, rfl, by decide +kernel, by decide +kernel⟩
theorem s30 : FnScope g30.N ["items", "at"] (defScope (tp 44)) := ⟨rfl, rfl, rfl, by decide +kernel, rfl, by decide +kernel, by decide +kernel⟩
theorem s31 : FnScope g31.N ["items"] (defScope (tp 45)) := ⟨rfl, rfl, rfl, by decide +kernel, rfl, by decide +kernel, by decide +kernel⟩
theorem s32 : FnScope g32.N ["items", "first"] (defScope (tp 46)) := ⟨rfl, rfl, rfl, by decide +kernel, rfl, by decide +kernel, by decide +kernel⟩
theorem s33 : FnScope g33.N ["items", "first", "last"] (defScope (tp 47)) := ⟨rfl, rfl, rfl, by decide +kernel, rfl, by decide +kernel, by decide +kernel⟩
theorem s34 : FnScope g34.N ["row"] (defScope (tp 48)) := ⟨rfl, rfl, rfl, by decide +kernel, rfl, by decide +kernel, by decide +kernel⟩
theorem s35 : FnScope g35.N ["gap", "give"] (defScope (tp 49)) := ⟨rfl, rfl, rfl, by decide +kernel, rfl, by decide +kernel, by decide +kernel⟩
theorem s36 : FnScope g36.N ["sums", "width"] (defScope (tp 50)) := ⟨rfl, rfl, rfl, by decide +kernel, rfl, by decide +kernel, by decide +kernel⟩
theorem s37 : FnScope g37.N ["sums", "width"] (defScope (tp 51)) := ⟨rfl, rfl, rfl, by decide +kernel, rfl, by decide +kernel, by decide +kernel⟩
theorem s38 : FnScope g38.N ["row", "width"] (defScope (tp 52)) := ⟨rfl, rfl, rfl, by decide +kernel, rfl, by decide +kernel, by decide +kernel⟩
theorem s39 : FnScope g39.N ["script"] (defScope (tp 53)) := ⟨rfl, rfl, rfl, by decide +kernel, rfl, by decide +kernel, by decide +kernel⟩
end W
namespace W
open PySem DL L2
variable {k : Nat}
/-! ## items -/
inductive Itm where
  | box (w : Int) | spring (a b c : Int) | fine (c w : Int) (m : Bool)
def Itm.d : Itm → D
  | .box w => .tup [.str "box", .int w]
  | .spring a b c => .tup [.str "spring", .int a, .int b, .int c]
  | .fine c w m => .tup [.str "fine", .int c, .int w, .bl m]
def Itm.ok : Itm → Prop
  | .box w => 0 ≤ w ∧ w ≤ 100000
  | .spring a b c => (0 ≤ a ∧ a ≤ 100000) ∧ (0 ≤ b ∧ b ≤ 100000) ∧ (0 ≤ c ∧ c ≤ 100000)
  | .fine c w _ => (-10000 ≤ c ∧ c ≤ 10000) ∧ (0 ≤ w ∧ w ≤ 100000)
def ds (its : List Itm) : List D := its.map Itm.d
def Itm.must : Itm → Bool
  | .fine c _ _ => decide (c = -10000)
  | _ => false
def Itm.isBox : Itm → Bool
  | .box _ => true
  | _ => false
def may (its : List Itm) (n : Nat) : Bool := match its[n]? with
  | some (.fine c _ _) => decide (c < 10000)
  | some (.spring _ _ _) => decide (0 < n) && (match its[n - 1]? with
    | some i => i.isBox
    | none => false)
  | _ => false
theorem at_ds {its : List Itm} {n : Nat} {it : Itm} (h : its[n]? = some it) : atI (ds its) (n : Int) = some it.d := atI_nat (by unfold ds; rw [List.getElem?_map, h]; rfl)
@[simp] theorem nbf : ¬ (Str.ofString "box" = Str.ofString "fine") := by decide
@[simp] theorem nfb : ¬ (Str.ofString "fine" = Str.ofString "box") := by decide
@[simp] theorem nsf : ¬ (Str.ofString "spring" = Str.ofString "fine") := by decide
@[simp] theorem nfs : ¬ (Str.ofString "fine" = Str.ofString "spring") := by decide
@[simp] theorem nbs : ¬ (Str.ofString "box" = Str.ofString "spring") := by decide
@[simp] theorem nsb : ¬ (Str.ofString "spring" = Str.ofString "box") := by decide
theorem p0 : phi tab (k+1) 0 = runD (phi tab k) ⟨[false], 1, false, b0⟩ := rfl
theorem p3 : phi tab (k+1) 3 = runD (phi tab k) ⟨[false, false], 2, false, b3⟩ := rfl
theorem p4 : phi tab (k+1) 4 = runD (phi tab k) ⟨[false, false], 2, false, b4⟩ := rfl
theorem p30 : phi tab (k+1) 30 = runD (phi tab k) ⟨[false, false], 2, false, b30⟩ := rfl
theorem f0_int {i : Int} : phi tab (k+1) 0 [.int i] = .ok (.val (.bl true), []) := by
  rw [p0, runD_of rfl]
  simp [b0]
theorem f4 {its : List Itm} {n : Nat} {it : Itm} (h : its[n]? = some it) : phi tab (k+1) 4 [.tup (ds its), .int n] = .ok (.val (.bl it.must), []) := by
  rw [p4, runD_of rfl]
  cases it <;> simp [b4, at_ds h, Itm.d, Itm.must]
theorem f30 {its : List Itm} {n : Nat} {it : Itm} (h : its[n]? = some it) : phi tab (k+1) 30 [.tup (ds its), .int n] = .ok (.val (.bl it.must), []) := by
  rw [p30, runD_of rfl]
  cases it <;> simp [b30, at_ds h, Itm.d, Itm.must]
theorem f3 {its : List Itm} {n : Nat} (h : n < its.length) : phi tab (k+1) 3 [.tup (ds its), .int n] = .ok (.val (.bl (may its n)), []) := by
  rw [p3, runD_of rfl]
  obtain ⟨it, h⟩ : ∃ it, its[n]? = some it := ⟨_, List.getElem?_eq_getElem h⟩
  cases it with
  | box w => simp [b3, at_ds h, Itm.d, may, h]
  | fine c w m => simp [b3, at_ds h, Itm.d, may, h]
  | spring a b c =>
    by_cases hn : 0 < n
    · obtain ⟨j, hj⟩ : ∃ j, its[n - 1]? = some j := ⟨_, List.getElem?_eq_getElem (by have := (List.getElem?_eq_some_iff.mp h).1; omega)⟩
      have e : ((n : Int) - 1) = ((n - 1 : Nat) : Int) := by omega
      cases j <;> simp [b3, at_ds h, at_ds hj, Itm.d, may, h, hn, hj, e, Itm.isBox]
    · have : n = 0 := by omega
      subst this
      have h' := at_ds h
      simp at h'
      simp [b3, h', Itm.d, may, h]
theorem ds_len {its : List Itm} : (ds its).length = its.length := by simp [ds]
/-- whole numbers as data -/
def nums (l : List Nat) : List D := l.map fun n => D.int (n : Nat)
end W
namespace W
open PySem DL L2
variable {k : Nat} {Φ : Nat → Fn}
theorem p2 : phi tab (k+1) 2 = runD (phi tab k) ⟨[false], 3, false, b2⟩ := rfl
theorem bls_true {α : Type} (l : List α) : blsD (l.map fun _ => D.bl true) = some (l.map fun _ => true) := by
  induction l with
  | nil => rfl
  | cons a l ih => simp [blsD, ih]
theorem all_true {α : Type} (l : List α) : opf .all [.lst (l.map fun _ => D.bl true)] = some (.val (.bl true)) := by
  show DL.b1 ((blsD (l.map fun _ => D.bl true)).map fun bs => bs.all id) = _
  rw [bls_true]
  simp
abbrev lcW (v : Nat) (s : E) : E := (.lc [v] (.name v false) .it [s] [] (.and (.call 0 [false] [(.var v)]) (.chain (.lit (.int 0)) .LtE (.var v) .LtE (.lit (.int 100000)))))
theorem widths_ok (h0 : ∀ i, Φ 0 [.int i] = .ok (.val (.bl true), [])) {x : D} {ns : List Int} (hn : ∀ i ∈ ns, 0 ≤ i ∧ i ≤ 100000) (hl : ns.length ≤ 120) :
    ev Φ (lcW 2 (.var 1)) [.val x, .val (.tup (ns.map .int)), .emp] = .ok (.own (.lst (ns.map fun _ => .bl true)), [.val x, .val (.tup (ns.map .int)), .emp]) := by
  have e := ev_lcm (Φ := Φ) (vs := [2]) (t := .name 2 false) (k := .it) (src := [.var 1]) (ifs := []) (elt := (.and (.call 0 [false] [(.var 2)]) (.chain (.lit (.int 0)) .LtE (.var 2) .LtE (.lit (.int 100000))))) (ρ := [.val x, .val (.tup (ns.map .int)), .emp]) (ρ1 := [.val x, .val (.tup (ns.map .int)), .emp]) (ds := [.tup (ns.map .int)])
    (fun _ => true) (fun _ => .bl true) (by simp) src_itT rfl (fun y hy => by
      obtain ⟨i, hi, rfl⟩ := List.mem_map.mp hy
      obtain ⟨h1, h2⟩ := hn i hi
      exact ⟨[.val x, .val (.tup (ns.map .int)), .val (.int i)], rfl, rfl, fun _ => by simp [h0, h1, h2], rfl⟩) (by simp; show _ ≤ 16777216; omega)
  have ft : ∀ l : List D, l.filter (fun _ => true) = l := fun l => List.filter_eq_self.mpr fun _ _ => rfl
  rw [ft] at e
  simpa [Function.comp_def] using e
theorem body2 (h0 : ∀ i, Φ 0 [.int i] = .ok (.val (.bl true), [])) {it : Itm} (h : it.ok) : runD Φ ⟨[false], 3, false, b2⟩ [it.d] = .ok (.val .non, []) := by
  have kin : ∀ (s : Str) (neg : Bool) (kvs : List (Str × Int)), opf (.inK kvs neg) [.str s] = some (.val (.bl (if neg then !(kvs.lookup s).isSome else (kvs.lookup s).isSome))) := fun _ _ _ => Eq.trans rfl rfl
  have kix : ∀ (s : Str) (kvs : List (Str × Int)), opf (.ixK kvs) [.str s] = (kvs.lookup s).map fun i => .val (.int i) := fun _ _ => Eq.trans rfl rfl
  have sl1 : ∀ (a : D) (i : Int), opf (.sl true false) [a, .int i] = slf (some i) none a := fun _ _ => Eq.trans rfl rfl
  have sl2 : ∀ (a : D) (i j : Int), opf (.sl true true) [a, .int i, .int j] = slf (some i) (some j) a := fun _ _ _ => Eq.trans rfl rfl
  have lb : ([("box", 2), ("spring", 4), ("fine", 4)] : List (Str × Int)).lookup (Str.ofString "box") = some 2 := by decide
  have ls : ([("box", 2), ("spring", 4), ("fine", 4)] : List (Str × Int)).lookup (Str.ofString "spring") = some 4 := by decide
  have lf : ([("box", 2), ("spring", 4), ("fine", 4)] : List (Str × Int)).lookup (Str.ofString "fine") = some 4 := by decide
  cases it with
  | box w =>
    have e := widths_ok h0 (x := (Itm.box w).d) (ns := [w]) (by intro i hi; simp at hi; subst hi; exact h) (by simp)
    have sl : slf (some 1) none (.tup [.str "box", .int w]) = some (.val (.tup [.int w])) := by rfl
    have al := all_true [w]
    simp only [List.map_cons, List.map_nil, Itm.d] at e al
    have e2 : evSs Φ b2 [.val (Itm.box w).d, .emp, .emp] = .ok (.nx [.val (Itm.box w).d, .val (.tup [.int w]), .emp]) := by
      simp [b2, Itm.d, kin, kix, sl1, sl2, lb, sl, e, al]
    exact runD_nx (d := ⟨[false], 3, false, b2⟩) (ds := [(Itm.box w).d]) rfl e2 rfl
  | spring a b c =>
    obtain ⟨h1, h2, h3⟩ := h
    have e := widths_ok h0 (x := (Itm.spring a b c).d) (ns := [a, b, c]) (by intro i hi; simp at hi; rcases hi with rfl | rfl | rfl <;> assumption) (by simp)
    have sl : slf (some 1) none (.tup [.str "spring", .int a, .int b, .int c]) = some (.val (.tup [.int a, .int b, .int c])) := by rfl
    have al := all_true [a, b, c]
    simp only [List.map_cons, List.map_nil, Itm.d] at e al
    have e2 : evSs Φ b2 [.val (Itm.spring a b c).d, .emp, .emp] = .ok (.nx [.val (Itm.spring a b c).d, .val (.tup [.int a, .int b, .int c]), .emp]) := by
      simp [b2, Itm.d, kin, kix, sl1, sl2, ls, sl, e, al]
    exact runD_nx (d := ⟨[false], 3, false, b2⟩) (ds := [(Itm.spring a b c).d]) rfl e2 rfl
  | fine c w m =>
    obtain ⟨⟨h1, h2⟩, h3⟩ := h
    have e := widths_ok h0 (x := (Itm.fine c w m).d) (ns := [w]) (by intro i hi; simp at hi; subst hi; exact h3) (by simp)
    have sl : slf (some 2) (some 3) (.tup [.str "fine", .int c, .int w, .bl m]) = some (.val (.tup [.int w])) := by rfl
    have al := all_true [w]
    simp only [List.map_cons, List.map_nil, Itm.d] at e al
    have ab : ¬ (10000 < (if c < 0 then -c else c)) := by split <;> omega
    have e2 : evSs Φ b2 [.val (Itm.fine c w m).d, .emp, .emp] = .ok (.nx [.val (Itm.fine c w m).d, .val (.tup [.int w]), .emp]) := by
      simp [b2, Itm.d, kin, kix, sl1, sl2, lf, sl, e, al, h0, ab]
    exact runD_nx (d := ⟨[false], 3, false, b2⟩) (ds := [(Itm.fine c w m).d]) rfl e2 rfl
theorem f2 {it : Itm} (h : it.ok) : phi tab (k+2) 2 [it.d] = .ok (.val .non, []) := by
  rw [p2]; exact body2 (fun i => f0_int) h
end W
namespace W
open PySem DL L2
variable {k : Nat} {Φ : Nat → Fn}
structure Good (its : List Itm) : Prop where
  len : its.length ≤ 120
  all : ∀ it ∈ its, it.ok
  last : ∃ r w m, its = r ++ [.fine (-10000) w m]
theorem Good.pos {its : List Itm} (g : Good its) : 1 ≤ its.length := by
  obtain ⟨r, w, m, rfl⟩ := g.last
  simp
theorem at_last {r : List Itm} {it : Itm} : atI (ds (r ++ [it])) (-1) = some it.d := by
  unfold ds
  rw [List.map_append]
  exact atI_last _ _
theorem p1 : phi tab (k+1) 1 = runD (phi tab k) ⟨[false], 2, false, b1⟩ := rfl
theorem tup_item (it : Itm) : ∃ x xs, it.d = .tup (x :: xs) := by
  cases it <;> exact ⟨_, _, rfl⟩
theorem body1 (h2 : ∀ it : Itm, it.ok → Φ 2 [it.d] = .ok (.val .non, [])) {its : List Itm} (g : Good its) : runD Φ ⟨[false], 2, false, b1⟩ [.tup (ds its)] = .ok (.val .non, []) := by
  have e := ev_lcm (Φ := Φ) (vs := [1]) (t := .name 1 false) (k := .it) (src := [.var 0]) (ifs := []) (elt := (.and (.op (.isi "tuple") [(.var 1)]) (.op (.cmp .Gt) [(.op .len [(.var 1)]), (.lit (.int 0))]))) (ρ := [.val (.tup (ds its)), .emp]) (ρ1 := [.val (.tup (ds its)), .emp]) (ds := [.tup (ds its)])
    (fun _ => true) (fun _ => .bl true) (by simp) src_itT rfl (fun y hy => by
      obtain ⟨it, hi, rfl⟩ := List.mem_map.mp (show y ∈ its.map Itm.d from hy)
      obtain ⟨x, xs, hx⟩ := tup_item it
      exact ⟨[.val (.tup (ds its)), .val it.d], rfl, rfl, fun _ => by rw [hx]; simp, rfl⟩) (by rw [ds_len]; have := g.len; show _ ≤ 16777216; omega)
  have ft : ∀ l : List D, l.filter (fun _ => true) = l := fun l => List.filter_eq_self.mpr fun _ _ => rfl
  rw [ft] at e
  have al := all_true (ds its)
  have hl := g.len
  have hp := g.pos
  obtain ⟨ρ', f1, ⟨t, f2⟩⟩ := evS_fora (Φ := Φ) (t := .name 1 false) (k := .it) (src := [.var 0]) (b := [(.exp (.call 2 [false] [(.var 1)]))]) (ρ := [.val (.tup (ds its)), .emp]) (ρ1 := [.val (.tup (ds its)), .emp]) (ds := [.tup (ds its)]) (items := ds its)
    (fun _ ρ => ∃ t, ρ = [.val (.tup (ds its)), t]) (by simp) src_itT (fun j x ρ hj ⟨t, ht⟩ => by
      subst ht
      obtain ⟨it, hi, rfl⟩ := List.mem_map.mp (List.mem_of_getElem? (show (its.map Itm.d)[j]? = some x from hj))
      exact ⟨[.val (.tup (ds its)), .val it.d], [.val (.tup (ds its)), .val it.d], rfl, .inl (by simp [h2 it (g.all it hi)]), _, rfl⟩) ⟨_, rfl⟩
  subst f2
  obtain ⟨r, w, m, hr⟩ := g.last
  have la : atI (ds its) (-1) = some (Itm.fine (-10000) w m).d := by rw [hr]; exact at_last
  have e2 : evSs Φ b1 [.val (.tup (ds its)), .emp] = .ok (.nx [.val (.tup (ds its)), t]) := by
    have i1 : ((1 : Int) ≤ its.length) := by omega
    have i2 : ((its.length : Int) ≤ 120) := by omega
    simp [b1, e, al, f1, la, ds_len, i1, i2, Itm.d]
  exact runD_nx (d := ⟨[false], 2, false, b1⟩) (ds := [.tup (ds its)]) rfl e2 rfl
theorem f1 {its : List Itm} (g : Good its) : phi tab (k+3) 1 [.tup (ds its)] = .ok (.val .non, []) := by
  rw [p1]; exact body1 (fun it h => f2 h) g
end W
namespace W
open PySem DL L2
variable {k : Nat} {Φ : Nat → Fn}
/-! ## where a line's items begin -/
def Itm.skip (i : Itm) : Bool := !i.isBox && !i.must
def skipN (its : List Itm) (b : Nat) : Nat := b + ((its.drop b).takeWhile Itm.skip).length
theorem skip_end {its : List Itm} {b : Nat} (h : its.length ≤ b) : skipN its b = b := by
  unfold skipN; rw [List.drop_of_length_le h]; rfl
theorem skip_no {its : List Itm} {b : Nat} {it : Itm} (h : its[b]? = some it) (hs : it.skip = false) : skipN its b = b := by
  obtain ⟨hb, e⟩ := List.getElem?_eq_some_iff.mp h
  unfold skipN; rw [List.drop_eq_getElem_cons hb, e, List.takeWhile_cons_of_neg (by simp [hs])]; rfl
theorem skip_yes {its : List Itm} {b : Nat} {it : Itm} (h : its[b]? = some it) (hs : it.skip = true) : skipN its b = skipN its (b + 1) := by
  obtain ⟨hb, e⟩ := List.getElem?_eq_some_iff.mp h
  unfold skipN; rw [List.drop_eq_getElem_cons hb, e, List.takeWhile_cons_of_pos hs, List.length_cons]; omega
theorem skip_le {its : List Itm} {b : Nat} (h : b ≤ its.length) : skipN its b ≤ its.length := by
  unfold skipN
  have := (List.takeWhile_sublist Itm.skip (l := its.drop b)).length_le
  rw [List.length_drop] at this
  omega
/-- at: -1, or a place -/
def beg (its : List Itm) (at_ : Int) : Nat := if 0 ≤ at_ then skipN its (at_ + 1).toNat else (at_ + 1).toNat
theorem p5 : phi tab (k+1) 5 = runD (phi tab k) ⟨[false, false], 3, false, b5⟩ := rfl
theorem p32 : phi tab (k+1) 32 = runD (phi tab k) ⟨[false, false], 3, false, b32⟩ := rfl
abbrev tstB (j : Nat) : E := (.and (.op (.cmp .GtE) [(.var 1), (.lit (.int 0))]) (.and (.op (.cmp .Lt) [(.var 2), (.op .len [(.var 0)])]) (.and (.op (.cmp .NotEq) [(.op .ix [(.op .ix [(.var 0), (.var 2)]), (.lit (.int 0))]), (.lit (.str "box"))]) (.ife (.call j [false, false] [(.var 0), (.var 2)]) (.lit (.bl false)) (.lit (.bl true))))))
theorem tst_at {j : Nat} (hj : ∀ (n : Nat) (it : Itm) (its : List Itm), its[n]? = some it → Φ j [.tup (ds its), .int n] = .ok (.val (.bl it.must), [])) {its : List Itm} {at_ : Int} {b : Nat} {it : Itm} (h : its[b]? = some it) (ha : 0 ≤ at_) :
    tru (rel (ev Φ (tstB j) [.val (.tup (ds its)), .val (.int at_), .val (.int b)])) = .ok (it.skip, [.val (.tup (ds its)), .val (.int at_), .val (.int b)]) := by
  have hlt := (List.getElem?_eq_some_iff.mp h).1
  have a1 := at_ds h
  have a2 := hj b _ its h
  clear h hj
  cases it with
  | box w => simp [ha, ds_len, hlt, a1, Itm.d, Itm.skip, Itm.isBox]
  | spring x y z => simp [ha, ds_len, hlt, a1, Itm.d, Itm.skip, Itm.isBox, a2, Itm.must]
  | fine c w m =>
    by_cases hc : c = -10000 <;> simp [ha, ds_len, hlt, a1, Itm.d, Itm.skip, Itm.isBox, a2, Itm.must, hc]
theorem tst_out {j : Nat} {its : List Itm} {at_ : Int} {b : Nat} (h : 0 ≤ at_ → its.length ≤ b) :
    tru (rel (ev Φ (tstB j) [.val (.tup (ds its)), .val (.int at_), .val (.int b)])) = .ok (false, [.val (.tup (ds its)), .val (.int at_), .val (.int b)]) := by
  by_cases ha : 0 ≤ at_
  · have h' : ¬ ((b : Int) < its.length) := by have := h ha; omega
    simp [ha, ds_len, h']
  · simp [ha]
theorem loop_ok {j : Nat} {bd : List S} (hj : ∀ (n : Nat) (it : Itm) (its : List Itm), its[n]? = some it → Φ j [.tup (ds its), .int n] = .ok (.val (.bl it.must), []))
    {its : List Itm} {at_ : Int} (hbd : ∀ b : Nat, evSs Φ bd [.val (.tup (ds its)), .val (.int at_), .val (.int b)] = .ok (.nx [.val (.tup (ds its)), .val (.int at_), .val (.int (b + 1 : Nat))])) (hl : its.length ≤ 1000) (h0 : -1 ≤ at_) (h1 : at_ < its.length) :
    evS Φ (.whl (tstB j) bd) [.val (.tup (ds its)), .val (.int at_), .val (.int (at_ + 1))] = .ok (.nx [.val (.tup (ds its)), .val (.int at_), .val (.int (beg its at_))]) := by
  have e : at_ + 1 = (((at_ + 1).toNat : Nat) : Int) := by omega
  obtain ⟨ρ', q1, q2⟩ := evS_whla (Φ := Φ) (t := tstB j) (b := bd) (ρ := [.val (.tup (ds its)), .val (.int at_), .val (.int (at_ + 1))]) (m := its.length - (at_ + 1).toNat)
    (fun m ρ => ∃ b : Nat, m = its.length - b ∧ b ≤ its.length ∧ ρ = [.val (.tup (ds its)), .val (.int at_), .val (.int b)] ∧ (if 0 ≤ at_ then skipN its b = beg its at_ else b = beg its at_)) (fun ρ => ρ = [.val (.tup (ds its)), .val (.int at_), .val (.int (beg its at_))])
    (fun m ρ ⟨b, hm, hb, hρ, hs⟩ => by
      subst hρ
      by_cases ha : 0 ≤ at_
      · rw [if_pos ha] at hs
        by_cases hlt : b < its.length
        · obtain ⟨it, h⟩ : ∃ it, its[b]? = some it := ⟨_, List.getElem?_eq_getElem hlt⟩
          have t := tst_at hj h ha
          cases hk : it.skip with
          | false =>
            rw [hk] at t
            refine .inl ⟨_, t, ?_⟩
            rw [← hs, skip_no h hk]
          | true =>
            rw [hk] at t
            refine .inr ⟨_, _, its.length - (b + 1), t, .inl (hbd b), by omega, b + 1, rfl, by omega, rfl, ?_⟩
            rw [if_pos ha, ← skip_yes h hk]; exact hs
        · refine .inl ⟨_, tst_out fun _ => by omega, ?_⟩
          rw [← hs, skip_end (by omega)]
      · rw [if_neg ha] at hs
        refine .inl ⟨_, tst_out fun z => absurd z ha, ?_⟩
        rw [← hs]) ⟨(at_ + 1).toNat, rfl, by omega, by rw [← e], by unfold beg; split <;> rfl⟩ (lt_fuel (by omega))
  rw [q1, q2]
theorem body5 (hj : ∀ (n : Nat) (it : Itm) (its : List Itm), its[n]? = some it → Φ 4 [.tup (ds its), .int n] = .ok (.val (.bl it.must), [])) {its : List Itm} {at_ : Int} (hl : its.length ≤ 1000) (h0 : -1 ≤ at_) (h1 : at_ < its.length) :
    runD Φ ⟨[false, false], 3, false, b5⟩ [.tup (ds its), .int at_] = .ok (.val (.int (beg its at_)), []) := by
  have lp := loop_ok (bd := [(.aug 2 .Add (.lit (.int 1)))]) hj (at_ := at_) (fun b => by simp [augf]) hl h0 h1
  have e2 : evSs Φ b5 [.val (.tup (ds its)), .val (.int at_), .emp] = .ok (.rt (.val (.int (beg its at_))) [.val (.tup (ds its)), .val (.int at_), .val (.int (beg its at_))]) := by
    simp [b5, lp]
  exact runD_rt (d := ⟨[false, false], 3, false, b5⟩) (ds := [.tup (ds its), .int at_]) rfl e2 rfl rfl
theorem body32 (hj : ∀ (n : Nat) (it : Itm) (its : List Itm), its[n]? = some it → Φ 30 [.tup (ds its), .int n] = .ok (.val (.bl it.must), [])) {its : List Itm} {at_ : Int} (hl : its.length ≤ 1000) (h0 : -1 ≤ at_) (h1 : at_ < its.length) :
    runD Φ ⟨[false, false], 3, false, b32⟩ [.tup (ds its), .int at_] = .ok (.val (.int (beg its at_)), []) := by
  have lp := loop_ok (bd := [(.asg (.name 2 false) (.op (.bin .Add) [(.var 2), (.lit (.int 1))]))]) hj (at_ := at_) (fun b => by simp) hl h0 h1
  have e2 : evSs Φ b32 [.val (.tup (ds its)), .val (.int at_), .emp] = .ok (.rt (.val (.int (beg its at_))) [.val (.tup (ds its)), .val (.int at_), .val (.int (beg its at_))]) := by
    simp [b32, lp]
  exact runD_rt (d := ⟨[false, false], 3, false, b32⟩) (ds := [.tup (ds its), .int at_]) rfl e2 rfl rfl
end W
namespace W
open PySem DL L2
variable {k : Nat} {Φ : Nat → Fn}
/-! ## a line's items -/
def Itm.isFine : Itm → Bool
  | .fine _ _ _ => true
  | _ => false
def midI (its : List Itm) (b l : Nat) : List Itm := ((its.drop b).take (l - b)).filter fun i => !i.isFine
def endI : Option Itm → List Itm
  | some (.fine _ w _) => if 0 < w then [.box w] else []
  | _ => []
def lineI (its : List Itm) (first : Int) (l : Nat) : List Itm := midI its (beg its first) l ++ endI its[l]?
def notFine : D → Bool
  | .tup (.str s :: _) => !decide (s = Str.ofString "fine")
  | _ => false
theorem notFine_d (it : Itm) : notFine it.d = !it.isFine := by
  cases it <;> simp [Itm.d, notFine, Itm.isFine]
theorem cut_ds {its : List Itm} {b l : Nat} (hb : b ≤ its.length) (hl : l ≤ its.length) : slf (some (b : Int)) (some (l : Int)) (.tup (ds its)) = some (.val (.tup (ds ((its.drop b).take (l - b))))) := by
  show some (Slot.val (.tup (cutD (ds its) (some (b : Int)) (some (l : Int))))) = _
  unfold cutD
  rw [HT.sIx_nat, HT.sIx_nat, ds_len, Nat.min_eq_left hb, Nat.min_eq_left hl]
  simp [ds, List.map_drop, List.map_take]
theorem filt_ds (l : List Itm) : ((ds l).filter notFine).map id = ds (l.filter fun i => !i.isFine) := by
  simp [ds, List.filter_map, Function.comp_def, notFine_d]
abbrev lcF (j : Nat) : E := (.lc [4] (.name 4 false) .it [(.op (.sl true true) [(.var 0), (.op .ck [(.call j [false, false] [(.var 0), (.var 1)])]), (.op .ck [(.var 2)])])] [(.op (.cmp .NotEq) [(.op .ix [(.var 4), (.lit (.int 0))]), (.lit (.str "fine"))])] (.var 4))
theorem lcF_ok {j : Nat} {its : List Itm} {first : Int} {l : Nat} (hj : Φ j [.tup (ds its), .int first] = .ok (.val (.int (beg its first)), [])) (hb : beg its first ≤ its.length) (hl : l < its.length) (hn : its.length ≤ 1000) :
    ev Φ (lcF j) [.val (.tup (ds its)), .val (.int first), .val (.int l), .emp, .emp] = .ok (.own (.lst (ds (midI its (beg its first) l))), [.val (.tup (ds its)), .val (.int first), .val (.int l), .emp, .emp]) := by
  have sl2 : ∀ (a : D) (i j : Int), opf (.sl true true) [a, .int i, .int j] = slf (some i) (some j) a := fun _ _ _ => Eq.trans rfl rfl
  have hcut := cut_ds (its := its) (b := beg its first) (l := l) hb (by omega)
  have e := ev_lcm (Φ := Φ) (vs := [4]) (t := .name 4 false) (k := .it) (src := [(.op (.sl true true) [(.var 0), (.op .ck [(.call j [false, false] [(.var 0), (.var 1)])]), (.op .ck [(.var 2)])])]) (ifs := [(.op (.cmp .NotEq) [(.op .ix [(.var 4), (.lit (.int 0))]), (.lit (.str "fine"))])]) (elt := .var 4)
    (ρ := [.val (.tup (ds its)), .val (.int first), .val (.int l), .emp, .emp]) (ρ1 := [.val (.tup (ds its)), .val (.int first), .val (.int l), .emp, .emp]) (ds := [.tup (ds ((its.drop (beg its first)).take (l - beg its first)))])
    notFine id (by simp [hj, sl2, hcut]) src_itT rfl (fun x hx => by
      obtain ⟨it, hi, rfl⟩ := List.mem_map.mp hx
      refine ⟨[.val (.tup (ds its)), .val (.int first), .val (.int l), .emp, .val it.d], rfl, ?_, fun _ => rfl, rfl⟩
      rw [notFine_d]
      cases it <;> simp [Itm.d, Itm.isFine]) (by rw [ds_len]; simp; show _ ≤ 16777216; omega)
  rw [filt_ds] at e
  exact e
theorem ds_app {a b : List Itm} : ds (a ++ b) = ds a ++ ds b := by simp [ds]
theorem ds_one {a : Itm} : ds [a] = [a.d] := rfl
theorem ds_nil : ds [] = [] := rfl
theorem p6 : phi tab (k+1) 6 = runD (phi tab k) ⟨[false, false, false], 5, false, b6⟩ := rfl
theorem p33 : phi tab (k+1) 33 = runD (phi tab k) ⟨[false, false, false], 5, false, b33⟩ := rfl
theorem mid_len {its : List Itm} {b l : Nat} : (midI its b l).length ≤ its.length := by
  unfold midI
  have h1 := (List.filter_sublist (l := (its.drop b).take (l - b)) (p := fun i => !i.isFine)).length_le
  have h2 : ((its.drop b).take (l - b)).length ≤ its.length := by simp; omega
  omega
theorem body6 {its : List Itm} {first : Int} {l : Nat} (hj : Φ 5 [.tup (ds its), .int first] = .ok (.val (.int (beg its first)), [])) (hb : beg its first ≤ its.length) (hl : l < its.length) (hn : its.length ≤ 1000) :
    runD Φ ⟨[false, false, false], 5, false, b6⟩ [.tup (ds its), .int first, .int l] = .ok (.val (.lst (ds (lineI its first l))), []) := by
  have e := lcF_ok hj hb hl hn
  obtain ⟨it, h⟩ : ∃ it, its[l]? = some it := ⟨_, List.getElem?_eq_getElem hl⟩
  have a1 := at_ds h
  have hm : (ds (midI its (beg its first) l)).length < Line := by rw [ds_len]; have := @mid_len its (beg its first) l; show _ < 16777216; omega
  have ap : ∀ y : D, muf .append (.lst (ds (midI its (beg its first) l))) [y] = some (.non, .lst (ds (midI its (beg its first) l) ++ [y])) := fun y => muf_app hm
  have mk : ∀ w : Int, mkf .tup [.str "box", .int w] = some (.val (Itm.box w).d) := fun w => mkf_tup (by show 2 ≤ 16777216; omega)
  have fin : ∃ ρ', evSs Φ b6 [.val (.tup (ds its)), .val (.int first), .val (.int l), .emp, .emp] = .ok (.rt (.own (.lst (ds (lineI its first l)))) ρ') ∧ outIos [false, false, false] ρ' = some [] := by
    cases it with
    | box w => exact ⟨_, by simp [b6, e, a1, Itm.d, lineI, h, endI]; rfl, rfl⟩
    | spring x y z => exact ⟨_, by simp [b6, e, a1, Itm.d, lineI, h, endI]; rfl, rfl⟩
    | fine c w m =>
      by_cases hw : 0 < w
      · exact ⟨_, by simp [b6, e, a1, Itm.d, lineI, h, endI, hw, mk, ap, ds_app, ds_one]; rfl, rfl⟩
      · exact ⟨_, by simp [b6, e, a1, Itm.d, lineI, h, endI, hw]; rfl, rfl⟩
  obtain ⟨ρ', e2, o⟩ := fin
  exact runD_rt (d := ⟨[false, false, false], 5, false, b6⟩) (ds := [.tup (ds its), .int first, .int l]) rfl e2 o rfl
theorem body33 {its : List Itm} {first : Int} {l : Nat} (hj : Φ 32 [.tup (ds its), .int first] = .ok (.val (.int (beg its first)), [])) (hb : beg its first ≤ its.length) (hl : l < its.length) (hn : its.length ≤ 1000) :
    runD Φ ⟨[false, false, false], 5, false, b33⟩ [.tup (ds its), .int first, .int l] = .ok (.val (.tup (ds (lineI its first l))), []) := by
  have e := lcF_ok hj hb hl hn
  obtain ⟨it, h⟩ : ∃ it, its[l]? = some it := ⟨_, List.getElem?_eq_getElem hl⟩
  have a1 := at_ds h
  have hm : (ds (midI its (beg its first) l)).length ≤ 1000 := by rw [ds_len]; have := @mid_len its (beg its first) l; omega
  have ap : ∀ ys : List D, ys.length ≤ 10 → binf .Add (.tup (ds (midI its (beg its first) l))) (.tup ys) = some (.val (.tup (ds (midI its (beg its first) l) ++ ys))) := fun ys hy => if_pos (by show _ ≤ 16777216; omega)
  have ap0 := ap [] (by simp)
  have mk : ∀ w : Int, mkf .tup [.str "box", .int w] = some (.val (Itm.box w).d) := fun w => mkf_tup (by show 2 ≤ 16777216; omega)
  have mk1 : ∀ x : D, mkf .tup [x] = some (.val (.tup [x])) := fun x => mkf_tup (by show 1 ≤ 16777216; omega)
  have mk0 : mkf .tup [] = some (.val (.tup [])) := mkf_tup (by show 0 ≤ 16777216; omega)
  have fin : ∃ ρ', evSs Φ b33 [.val (.tup (ds its)), .val (.int first), .val (.int l), .emp, .emp] = .ok (.rt (.val (.tup (ds (lineI its first l)))) ρ') ∧ outIos [false, false, false] ρ' = some [] := by
    cases it with
    | box w => exact ⟨_, by simp [b33, e, a1, Itm.d, lineI, h, endI, mk0, ap0]; rfl, rfl⟩
    | spring x y z => exact ⟨_, by simp [b33, e, a1, Itm.d, lineI, h, endI, mk0, ap0]; rfl, rfl⟩
    | fine c w m =>
      by_cases hw : 0 < w
      · have ap1 := ap [.tup [.str "box", .int w]] (by simp)
        exact ⟨_, by simp [b33, e, a1, Itm.d, lineI, h, endI, hw, mk, mk1, ap1, ds_app, ds_one]; rfl, rfl⟩
      · exact ⟨_, by simp [b33, e, a1, Itm.d, lineI, h, endI, hw, mk0, ap0]; rfl, rfl⟩
  obtain ⟨ρ', e2, o⟩ := fin
  exact runD_rt (d := ⟨[false, false, false], 5, false, b33⟩) (ds := [.tup (ds its), .int first, .int l]) rfl e2 o rfl
theorem beg_le {its : List Itm} {first : Int} (h1 : first < its.length) (h0 : -1 ≤ first) : beg its first ≤ its.length := by
  unfold beg
  split
  · exact skip_le (by omega)
  · omega
theorem f5 {its : List Itm} {at_ : Int} (hl : its.length ≤ 1000) (h0 : -1 ≤ at_) (h1 : at_ < its.length) : phi tab (k+2) 5 [.tup (ds its), .int at_] = .ok (.val (.int (beg its at_)), []) := by
  rw [p5]; exact body5 (fun n it its h => f4 h) hl h0 h1
theorem f32 {its : List Itm} {at_ : Int} (hl : its.length ≤ 1000) (h0 : -1 ≤ at_) (h1 : at_ < its.length) : phi tab (k+2) 32 [.tup (ds its), .int at_] = .ok (.val (.int (beg its at_)), []) := by
  rw [p32]; exact body32 (fun n it its h => f30 h) hl h0 h1
theorem f6 {its : List Itm} {first : Int} {l : Nat} (hn : its.length ≤ 1000) (h0 : -1 ≤ first) (h1 : first < its.length) (hl : l < its.length) : phi tab (k+3) 6 [.tup (ds its), .int first, .int l] = .ok (.val (.lst (ds (lineI its first l))), []) := by
  rw [p6]; exact body6 (f5 hn h0 h1) (beg_le h1 h0) hl hn
theorem f33 {its : List Itm} {first : Int} {l : Nat} (hn : its.length ≤ 1000) (h0 : -1 ≤ first) (h1 : first < its.length) (hl : l < its.length) : phi tab (k+3) 33 [.tup (ds its), .int first, .int l] = .ok (.val (.tup (ds (lineI its first l))), []) := by
  rw [p33]; exact body33 (f32 hn h0 h1) (beg_le h1 h0) hl hn
end W
namespace W
open PySem DL L2
variable {k : Nat} {Φ : Nat → Fn}
/-- a line from behind first to l -/
structure Brk (its : List Itm) (first : Int) (l : Nat) : Prop where
  lt : l < its.length
  ml : may its l = true
  lo : first < l
  mf : first = -1 ∨ ∃ n : Nat, first = n ∧ may its n = true
theorem p7 : phi tab (k+1) 7 = runD (phi tab k) ⟨[false, false, false], 3, false, b7⟩ := rfl
theorem body7 (h0 : ∀ i, Φ 0 [.int i] = .ok (.val (.bl true), [])) {its : List Itm} (h3 : ∀ n, n < its.length → Φ 3 [.tup (ds its), .int n] = .ok (.val (.bl (may its n)), [])) {first : Int} {l : Nat} (h : Brk its first l) :
    runD Φ ⟨[false, false, false], 3, false, b7⟩ [.tup (ds its), .int first, .int l] = .ok (.val .non, []) := by
  obtain ⟨q1, q2, q3, q4⟩ := h
  have hl := h3 l q1
  rw [q2] at hl
  have e2 : evSs Φ b7 [.val (.tup (ds its)), .val (.int first), .val (.int l)] = .ok (.nx [.val (.tup (ds its)), .val (.int first), .val (.int l)]) := by
    rcases q4 with rfl | ⟨n, rfl, q5⟩
    · simp [b7, h0, ds_len, hl, q1, q3]
    · have hn := h3 n (by omega)
      rw [q5] at hn
      have n1 : ((n : Int) ≠ -1) := by omega
      have n2 : n < its.length := by omega
      have n3 : n < l := by omega
      simp [b7, h0, ds_len, hl, hn, q1, n1, n2, n3]
  exact runD_nx (d := ⟨[false, false, false], 3, false, b7⟩) (ds := [.tup (ds its), .int first, .int l]) rfl e2 rfl
theorem f7 {its : List Itm} {first : Int} {l : Nat} (h : Brk its first l) : phi tab (k+2) 7 [.tup (ds its), .int first, .int l] = .ok (.val .non, []) := by
  rw [p7]; exact body7 (fun i => f0_int) (fun n hn => f3 hn) h
theorem Brk.ge {its : List Itm} {first : Int} {l : Nat} (h : Brk its first l) : -1 ≤ first := by
  rcases h.mf with rfl | ⟨n, rfl, _⟩ <;> omega
/-! ## sums -/
def Itm.n1 : Itm → Int
  | .box w => w
  | .spring a _ _ => a
  | .fine c _ _ => c
def Itm.n2 : Itm → Int
  | .spring _ b _ => b
  | .fine _ w _ => w
  | _ => 0
def Itm.n3 : Itm → Int
  | .spring _ _ c => c
  | _ => 0
def Itm.isSpring : Itm → Bool
  | .spring _ _ _ => true
  | _ => false
def sumI (r : List Itm) : D := .tup [.int (r.map Itm.n1).sum, .int ((r.filter Itm.isSpring).map Itm.n2).sum, .int ((r.filter Itm.isSpring).map Itm.n3).sum]
theorem ints_map {f : Itm → Int} (l : List Itm) : intsD (l.map fun i => D.int (f i)) = some (l.map f) := by
  induction l with
  | nil => rfl
  | cons a l ih => simp [intsD, ih]
theorem sum_map {f : Itm → Int} (l : List Itm) : opf .sum [.lst (l.map fun i => D.int (f i))] = some (.val (.int (l.map f).sum)) := by
  show i1 ((intsD (l.map fun i => D.int (f i))).map List.sum) = _
  rw [ints_map]; rfl
/-- a look at the v-th name's items -/
theorem num_ok {v s : Nat} {c : Int} {f : Itm → Int} {ρ : Sts} {r : List Itm} {src : D} (hsrc : evVs Φ [.var s] ρ = .ok ([src], ρ)) (hi : srcf .it [src] = some (ds r)) (ho : ownAny ρ [v] = false) (hv : v < ρ.length) (hb : backE ρ (wipeE ρ [v]) [v] = ρ) (hl : r.length ≤ 1000)
    (hf : ∀ it ∈ r, ∀ ρ2 : Sts, assignT (.name v false) (.val it.d) (wipeE ρ [v]) = some ρ2 → rel (ev Φ (.op .ix [(.var v), (.lit (.int c))]) ρ2) = .ok (.int (f it), ρ2) ∧ wipeE ρ2 [v] = wipeE ρ [v]) :
    ev Φ (.lc [v] (.name v false) .it [(.var s)] [] (.op .ix [(.var v), (.lit (.int c))])) ρ = .ok (.own (.lst (r.map fun i => .int (f i))), ρ) := by
  have hlen : (wipeE ρ [v]).length = ρ.length := by simp
  -- the value of an item is told by its data
  have key : ∃ g : D → D, ∀ it ∈ r, g it.d = .int (f it) := by
    refine ⟨fun d => match rel (ev Φ (.op .ix [(.var v), (.lit (.int c))]) ((wipeE ρ [v]).set v (.val d))) with
      | .ok p => p.1
      | _ => .non, fun it hit => ?_⟩
    have := (hf it hit ((wipeE ρ [v]).set v (.val it.d)) (by
      show (if v < (wipeE ρ [v]).length then _ else _) = _
      rw [if_pos (by rw [hlen]; exact hv)]; rfl)).1
    dsimp only
    rw [this]
  obtain ⟨g, hg⟩ := key
  have e := ev_lcm (Φ := Φ) (vs := [v]) (t := .name v false) (k := .it) (src := [.var s]) (ifs := []) (elt := .op .ix [(.var v), (.lit (.int c))]) (ρ := ρ) (ρ1 := ρ) (ds := [src]) (fun _ => true) g hsrc hi ho (fun x hx => by
    obtain ⟨it, hit, rfl⟩ := List.mem_map.mp (show x ∈ r.map Itm.d from hx)
    have ha : assignT (.name v false) (.val it.d) (wipeE ρ [v]) = some ((wipeE ρ [v]).set v (.val it.d)) := by
      show (if v < (wipeE ρ [v]).length then _ else _) = _
      rw [if_pos (by rw [hlen]; exact hv)]; rfl
    obtain ⟨h1, h2⟩ := hf it hit _ ha
    exact ⟨_, ha, rfl, fun _ => by rw [h1, hg it hit], h2⟩) (by rw [ds_len]; show _ ≤ 16777216; omega)
  have ft : ∀ l : List D, l.filter (fun _ => true) = l := fun l => List.filter_eq_self.mpr fun _ _ => rfl
  have gm : (ds r).map g = r.map fun i => D.int (f i) := by
    unfold ds
    rw [List.map_map]
    exact List.map_congr_left fun it hit => hg it hit
  rw [ft, gm, hb] at e
  exact e
end W
namespace W
open PySem DL L2
variable {k : Nat} {Φ : Nat → Fn}
def isSpringD : D → Bool
  | .tup (.str s :: _) => decide (s = Str.ofString "spring")
  | _ => false
theorem isSpring_d (it : Itm) : isSpringD it.d = it.isSpring := by
  cases it <;> simp [Itm.d, isSpringD, Itm.isSpring]
theorem filt_sp (l : List Itm) : ((ds l).filter isSpringD).map id = ds (l.filter Itm.isSpring) := by
  simp [ds, List.filter_map, Function.comp_def, isSpring_d]
theorem spr_ok {v s : Nat} {ρ : Sts} {r : List Itm} {src : D} (hsrc : evVs Φ [.var s] ρ = .ok ([src], ρ)) (hi : srcf .it [src] = some (ds r)) (ho : ownAny ρ [v] = false) (hv : v < ρ.length) (hb : backE ρ (wipeE ρ [v]) [v] = ρ) (hl : r.length ≤ 1000)
    (hf : ∀ it ∈ r, ∀ ρ2 : Sts, assignT (.name v false) (.val it.d) (wipeE ρ [v]) = some ρ2 → evTs Φ [(.op (.cmp .Eq) [(.op .ix [(.var v), (.lit (.int 0))]), (.lit (.str "spring"))])] ρ2 = .ok (it.isSpring, ρ2) ∧ rel (ev Φ (.var v) ρ2) = .ok (it.d, ρ2) ∧ wipeE ρ2 [v] = wipeE ρ [v]) :
    ev Φ (.lc [v] (.name v false) .it [(.var s)] [(.op (.cmp .Eq) [(.op .ix [(.var v), (.lit (.int 0))]), (.lit (.str "spring"))])] (.var v)) ρ = .ok (.own (.lst (ds (r.filter Itm.isSpring))), ρ) := by
  have hlen : (wipeE ρ [v]).length = ρ.length := by simp
  have e := ev_lcm (Φ := Φ) (vs := [v]) (t := .name v false) (k := .it) (src := [.var s]) (ifs := [(.op (.cmp .Eq) [(.op .ix [(.var v), (.lit (.int 0))]), (.lit (.str "spring"))])]) (elt := .var v) (ρ := ρ) (ρ1 := ρ) (ds := [src]) isSpringD id hsrc hi ho (fun x hx => by
    obtain ⟨it, hit, rfl⟩ := List.mem_map.mp (show x ∈ r.map Itm.d from hx)
    have ha : assignT (.name v false) (.val it.d) (wipeE ρ [v]) = some ((wipeE ρ [v]).set v (.val it.d)) := by
      show (if v < (wipeE ρ [v]).length then _ else _) = _
      rw [if_pos (by rw [hlen]; exact hv)]; rfl
    obtain ⟨h1, h2, h3⟩ := hf it hit _ ha
    exact ⟨_, ha, by rw [isSpring_d]; exact h1, fun _ => h2, h3⟩) (by rw [ds_len]; show _ ≤ 16777216; omega)
  rw [filt_sp, hb] at e
  exact e
structure Row (r : List Itm) : Prop where
  len : r.length ≤ 1000
  nf : ∀ it ∈ r, it.isFine = false
theorem p8 : phi tab (k+1) 8 = runD (phi tab k) ⟨[false], 4, false, b8⟩ := rfl
theorem p34 : phi tab (k+1) 34 = runD (phi tab k) ⟨[false], 3, false, b34⟩ := rfl
theorem spring_of {it : Itm} (h : it.isSpring = true) : ∃ a b c, it = .spring a b c := by
  cases it with
  | spring a b c => exact ⟨a, b, c, rfl⟩
  | _ => cases h
theorem body8 {r : List Itm} (hr : Row r) {src : D} (hs : src = .lst (ds r) ∨ src = .tup (ds r)) : runD Φ ⟨[false], 4, false, b8⟩ [src] = .ok (.val (sumI r), []) := by
  have hi : srcf .it [src] = some (ds r) := by rcases hs with rfl | rfl <;> rfl
  have hl := hr.len
  have hl2 : (r.filter Itm.isSpring).length ≤ 1000 := Nat.le_trans (List.filter_sublist).length_le hl
  have e1 := num_ok (Φ := Φ) (v := 3) (s := 0) (c := 1) (f := Itm.n1) (ρ := [.val src, .emp, .emp, .emp]) (r := r) (by simp) hi rfl (by simp) rfl hl (fun it hit ρ2 h => by
    simp at h; subst h
    have nf := hr.nf it hit
    cases it with
    | fine _ _ _ => cases nf
    | box w => exact ⟨by simp [Itm.d, Itm.n1], by simp⟩
    | spring a b c => exact ⟨by simp [Itm.d, Itm.n1], by simp⟩)
  have e2 := spr_ok (Φ := Φ) (v := 3) (s := 0) (ρ := [.val src, .val (.int (r.map Itm.n1).sum), .emp, .emp]) (r := r) (by simp) hi rfl (by simp) rfl hl (fun it hit ρ2 h => by
    simp at h; subst h
    refine ⟨?_, rfl, by simp⟩
    cases it <;> simp [Itm.d, Itm.isSpring])
  have e3 := num_ok (Φ := Φ) (v := 3) (s := 2) (c := 2) (f := Itm.n2) (ρ := [.val src, .val (.int (r.map Itm.n1).sum), .val (.lst (ds (r.filter Itm.isSpring))), .emp]) (r := r.filter Itm.isSpring) (by simp) src_itL rfl (by simp) rfl hl2 (fun it hit ρ2 h => by
    simp at h; subst h
    obtain ⟨a, b, c, rfl⟩ := spring_of (List.mem_filter.mp hit).2
    exact ⟨by simp [Itm.d, Itm.n2], by simp⟩)
  have e4 := num_ok (Φ := Φ) (v := 3) (s := 2) (c := 3) (f := Itm.n3) (ρ := [.val src, .val (.int (r.map Itm.n1).sum), .val (.lst (ds (r.filter Itm.isSpring))), .emp]) (r := r.filter Itm.isSpring) (by simp) src_itL rfl (by simp) rfl hl2 (fun it hit ρ2 h => by
    simp at h; subst h
    obtain ⟨a, b, c, rfl⟩ := spring_of (List.mem_filter.mp hit).2
    exact ⟨by simp [Itm.d, Itm.n3], by simp⟩)
  have s1 := sum_map (f := Itm.n1) r
  have s2 := sum_map (f := Itm.n2) (r.filter Itm.isSpring)
  have s3 := sum_map (f := Itm.n3) (r.filter Itm.isSpring)
  have mk : mkf .tup [.int (r.map Itm.n1).sum, .int ((r.filter Itm.isSpring).map Itm.n2).sum, .int ((r.filter Itm.isSpring).map Itm.n3).sum] = some (.val (sumI r)) := mkf_tup (by show 3 ≤ 16777216; omega)
  have fin : evSs Φ b8 [.val src, .emp, .emp, .emp] = .ok (.rt (.val (sumI r)) [.val src, .val (.int (r.map Itm.n1).sum), .val (.lst (ds (r.filter Itm.isSpring))), .emp]) := by
    simp [b8, e1, e2, e3, e4, s1, s2, s3, mk]
  exact runD_rt (d := ⟨[false], 4, false, b8⟩) (ds := [src]) rfl fin rfl rfl
end W
namespace W
open PySem DL L2
variable {k : Nat} {Φ : Nat → Fn}
theorem body34 {r : List Itm} (hr : Row r) : runD Φ ⟨[false], 3, false, b34⟩ [.tup (ds r)] = .ok (.val (sumI r), []) := by
  have hl := hr.len
  have hl2 : (r.filter Itm.isSpring).length ≤ 1000 := Nat.le_trans (List.filter_sublist).length_le hl
  have e2 := spr_ok (Φ := Φ) (v := 2) (s := 0) (ρ := [.val (.tup (ds r)), .emp, .emp]) (r := r) (by simp) src_itT rfl (by simp) rfl hl (fun it hit ρ2 h => by
    simp at h; subst h
    refine ⟨?_, rfl, by simp⟩
    cases it <;> simp [Itm.d, Itm.isSpring])
  have e1 := num_ok (Φ := Φ) (v := 2) (s := 0) (c := 1) (f := Itm.n1) (ρ := [.val (.tup (ds r)), .val (.lst (ds (r.filter Itm.isSpring))), .emp]) (r := r) (by simp) src_itT rfl (by simp) rfl hl (fun it hit ρ2 h => by
    simp at h; subst h
    have nf := hr.nf it hit
    cases it with
    | fine _ _ _ => cases nf
    | box w => exact ⟨by simp [Itm.d, Itm.n1], by simp⟩
    | spring a b c => exact ⟨by simp [Itm.d, Itm.n1], by simp⟩)
  have e3 := num_ok (Φ := Φ) (v := 2) (s := 1) (c := 2) (f := Itm.n2) (ρ := [.val (.tup (ds r)), .val (.lst (ds (r.filter Itm.isSpring))), .emp]) (r := r.filter Itm.isSpring) (by simp) src_itL rfl (by simp) rfl hl2 (fun it hit ρ2 h => by
    simp at h; subst h
    obtain ⟨a, b, c, rfl⟩ := spring_of (List.mem_filter.mp hit).2
    exact ⟨by simp [Itm.d, Itm.n2], by simp⟩)
  have e4 := num_ok (Φ := Φ) (v := 2) (s := 1) (c := 3) (f := Itm.n3) (ρ := [.val (.tup (ds r)), .val (.lst (ds (r.filter Itm.isSpring))), .emp]) (r := r.filter Itm.isSpring) (by simp) src_itL rfl (by simp) rfl hl2 (fun it hit ρ2 h => by
    simp at h; subst h
    obtain ⟨a, b, c, rfl⟩ := spring_of (List.mem_filter.mp hit).2
    exact ⟨by simp [Itm.d, Itm.n3], by simp⟩)
  have s1 := sum_map (f := Itm.n1) r
  have s2 := sum_map (f := Itm.n2) (r.filter Itm.isSpring)
  have s3 := sum_map (f := Itm.n3) (r.filter Itm.isSpring)
  have mk : mkf .tup [.int (r.map Itm.n1).sum, .int ((r.filter Itm.isSpring).map Itm.n2).sum, .int ((r.filter Itm.isSpring).map Itm.n3).sum] = some (.val (sumI r)) := mkf_tup (by show 3 ≤ 16777216; omega)
  have fin : evSs Φ b34 [.val (.tup (ds r)), .emp, .emp] = .ok (.rt (.val (sumI r)) [.val (.tup (ds r)), .val (.lst (ds (r.filter Itm.isSpring))), .emp]) := by
    simp [b34, e1, e2, e3, e4, s1, s2, s3, mk]
  exact runD_rt (d := ⟨[false], 3, false, b34⟩) (ds := [.tup (ds r)]) rfl fin rfl rfl
theorem f34 {r : List Itm} (hr : Row r) : phi tab (k+1) 34 [.tup (ds r)] = .ok (.val (sumI r), []) := by
  rw [p34]; exact body34 hr
theorem line_row {its : List Itm} {first : Int} {l : Nat} (hl : its.length ≤ 120) : Row (lineI its first l) := by
  have he : (endI its[l]?).length ≤ 1 := by
    unfold endI
    split
    · split <;> simp
    · simp
  refine ⟨?_, fun it hit => ?_⟩
  · unfold lineI
    rw [List.length_append]
    have := @mid_len its (beg its first) l
    omega
  · unfold lineI at hit
    rcases List.mem_append.mp hit with h | h
    · have := (List.mem_filter.mp (show it ∈ midI its (beg its first) l from h)).2
      simpa using this
    · unfold endI at h
      split at h
      · split at h
        · have := List.mem_singleton.mp h
          subst this; rfl
        · cases h
      · cases h
/-! ## whether a line may stand there -/
def mustAt (its : List Itm) (n : Nat) : Bool := match its[n]? with
  | some it => it.must
  | none => false
def musts (its : List Itm) (first : Int) (l : Nat) : List D := ((List.range ((l : Int) - (first + 1)).toNat).filter fun j => mustAt its (first + 1 + (j : Nat)).toNat).map fun j => D.int (first + 1 + (j : Nat))
theorem musts_ok {j a v : Nat} (hj : ∀ (n : Nat) (it : Itm) (its : List Itm), its[n]? = some it → Φ j [.tup (ds its), .int n] = .ok (.val (.bl it.must), [])) {its : List Itm} {first : Int} {l : Nat} (hn : its.length ≤ 1000) (h0 : -1 ≤ first) (h1 : first < its.length) (hl : l < its.length) {ρ : Sts} {e1 e2 : E}
    (hs : evVs Φ [e1, e2] ρ = .ok ([.int (first + 1), .int l], ρ)) (ho : ownAny ρ [v] = false) (hv : v < ρ.length) (hb : backE ρ (wipeE ρ [v]) [v] = ρ)
    (hc : ∀ n : Nat, n < its.length → evTs Φ [(.call j [false, false] [(.var a), (.var v)])] ((wipeE ρ [v]).set v (.val (.int n))) = .ok (mustAt its n, (wipeE ρ [v]).set v (.val (.int n))))
    (hg : ∀ n : Nat, rel (ev Φ (.var v) ((wipeE ρ [v]).set v (.val (.int n)))) = .ok (.int n, (wipeE ρ [v]).set v (.val (.int n))) ∧ wipeE ((wipeE ρ [v]).set v (.val (.int n))) [v] = wipeE ρ [v]) :
    ev Φ (.lc [v] (.name v false) .rng [e1, e2] [(.call j [false, false] [(.var a), (.var v)])] (.var v)) ρ = .ok (.own (.lst (musts its first l)), ρ) := by
  have hlen : (wipeE ρ [v]).length = ρ.length := by simp
  have e := ev_lcm (Φ := Φ) (vs := [v]) (t := .name v false) (k := .rng) (src := [e1, e2]) (ifs := [(.call j [false, false] [(.var a), (.var v)])]) (elt := .var v) (ρ := ρ) (ρ1 := ρ) (ds := [.int (first + 1), .int l])
    (fun d => match d with
      | .int n => mustAt its n.toNat
      | _ => false) id hs (src_rng2 (by omega)) ho (fun x hx => by
    obtain ⟨m, hm, rfl⟩ := List.mem_map.mp hx
    have hm := List.mem_range.mp hm
    have en : first + 1 + (m : Nat) = (((first + 1 + (m : Nat)).toNat : Nat) : Int) := by omega
    have hlt : (first + 1 + (m : Nat)).toNat < its.length := by omega
    rw [en]
    generalize (first + 1 + (m : Nat)).toNat = n at hlt
    have ha : assignT (.name v false) (.val (.int n)) (wipeE ρ [v]) = some ((wipeE ρ [v]).set v (.val (.int n))) := by
      show (if v < (wipeE ρ [v]).length then _ else _) = _
      rw [if_pos (by rw [hlen]; exact hv)]; rfl
    exact ⟨_, ha, by simpa using hc n hlt, fun _ => (hg n).1, (hg n).2⟩) (by simp; show _ ≤ 16777216; omega)
  rw [hb] at e
  rw [e]
  unfold musts
  simp [List.filter_map, Function.comp_def]
end W
namespace W
open PySem DL L2
variable {k : Nat} {Φ : Nat → Fn}
end W
namespace W
open PySem DL L2
variable {k : Nat} {Φ : Nat → Fn}
/-! ## words -/
def flat (a b c : Int) (ws : List Int) : List Itm := ws.flatMap fun w => [.box w, .spring a b c]
def tailI : List Itm := [.fine 10000 0 false, .spring 0 100000 0, .fine (-10000) 0 false]
def wholeI (a b c : Int) (ws : List Int) : List Itm := (flat a b c ws).dropLast ++ tailI
def wordsI (a b c : Int) (ws : List Int) : List Itm := (wholeI a b c ws).drop ((wholeI a b c ws).length - 120)
theorem flat_len {a b c : Int} {ws : List Int} : (flat a b c ws).length = 2 * ws.length := by
  induction ws with
  | nil => rfl
  | cons w ws ih =>
    have : flat a b c (w :: ws) = [.box w, .spring a b c] ++ flat a b c ws := rfl
    rw [this, List.length_append, ih]
    show 2 + 2 * ws.length = 2 * (ws.length + 1)
    omega
theorem flat_snoc {a b c : Int} {ws : List Int} {w : Int} : flat a b c (ws ++ [w]) = flat a b c ws ++ [.box w, .spring a b c] := by
  simp [flat]
theorem sIx_neg (n d : Nat) (m : Nat) (h : 0 < m) : HT.sIx n d (some (-(m : Int))) = n - m := by
  show (if (-(m : Int)) < 0 then ((-(m : Int)) + (n : Int)).toNat else min (-(m : Int)).toNat n) = n - m
  rw [if_pos (by omega)]
  omega
theorem ds_drop {its : List Itm} {n : Nat} : (ds its).drop n = ds (its.drop n) := by simp [ds]
theorem ds_take {its : List Itm} {n : Nat} : (ds its).take n = ds (its.take n) := by simp [ds]
theorem cut_last {its : List Itm} : slf none (some (-1)) (.lst (ds its)) = some (.own (.lst (ds its.dropLast))) := by
  show some (Slot.own (.lst (cutD (ds its) none (some (-1))))) = _
  unfold cutD
  have e := sIx_neg (ds its).length (ds its).length 1 (by omega)
  rw [show (-((1 : Nat) : Int)) = -1 from rfl] at e
  rw [e, HT.sIx_none, List.drop_zero, Nat.sub_zero, ds_len, ds_take, List.dropLast_eq_take]
theorem cut_tail {its : List Itm} : slf (some (-120)) none (.lst (ds its)) = some (.own (.lst (ds (its.drop (its.length - 120))))) := by
  show some (Slot.own (.lst (cutD (ds its) (some (-120)) none))) = _
  unfold cutD
  have e := sIx_neg (ds its).length 0 120 (by omega)
  rw [show (-((120 : Nat) : Int)) = -120 from rfl] at e
  rw [e, HT.sIx_none, ds_drop, ds_len, List.take_of_length_le (by rw [ds_len, List.length_drop]; omega)]
theorem cut_from {its : List Itm} {n : Nat} : slf (some (n : Int)) none (.lst (ds its)) = some (.own (.lst (ds (its.drop n)))) := by
  show some (Slot.own (.lst (cutD (ds its) (some (n : Int)) none))) = _
  unfold cutD
  rw [HT.sIx_nat, HT.sIx_none, ds_drop, ds_len]
  by_cases h : n ≤ its.length
  · rw [Nat.min_eq_left h, List.take_of_length_le (by rw [ds_len, List.length_drop]; omega)]
  · rw [Nat.min_eq_right (by omega)]
    simp [ds, List.drop_of_length_le (show its.length ≤ n by omega)]
theorem words_good {a b c : Int} {ws : List Int} (ha : 0 ≤ a ∧ a ≤ 100000) (hb : 0 ≤ b ∧ b ≤ 100000) (hc : 0 ≤ c ∧ c ≤ 100000) (hw : ∀ w ∈ ws, 0 ≤ w ∧ w ≤ 100000) : Good (wordsI a b c ws) := by
  refine ⟨?_, fun it hit => ?_, ?_⟩
  · unfold wordsI; rw [List.length_drop]; omega
  · have h1 : it ∈ wholeI a b c ws := List.mem_of_mem_drop hit
    unfold wholeI at h1
    rcases List.mem_append.mp h1 with h | h
    · have h2 : it ∈ flat a b c ws := List.dropLast_subset _ h
      obtain ⟨w, hw1, hw2⟩ := List.mem_flatMap.mp h2
      simp at hw2
      rcases hw2 with rfl | rfl
      · exact hw w hw1
      · exact ⟨ha, hb, hc⟩
    · simp [tailI] at h
      rcases h with rfl | rfl | rfl
      · exact ⟨⟨by decide, by decide⟩, by decide, by decide⟩
      · exact ⟨⟨by decide, by decide⟩, ⟨by decide, by decide⟩, by decide, by decide⟩
      · exact ⟨⟨by decide, by decide⟩, by decide, by decide⟩
  · have hl : (wholeI a b c ws).length - 120 ≤ ((flat a b c ws).dropLast ++ [Itm.fine 10000 0 false, .spring 0 100000 0]).length := by
      unfold wholeI tailI
      simp
      omega
    refine ⟨((flat a b c ws).dropLast ++ [Itm.fine 10000 0 false, .spring 0 100000 0]).drop ((wholeI a b c ws).length - 120), 0, false, ?_⟩
    have e : wholeI a b c ws = ((flat a b c ws).dropLast ++ [Itm.fine 10000 0 false, .spring 0 100000 0]) ++ [.fine (-10000) 0 false] := by
      unfold wholeI tailI; simp
    unfold wordsI
    generalize (wholeI a b c ws).length - 120 = n at hl ⊢
    rw [e, List.drop_append_of_le_length hl]
end W
namespace W
open PySem DL L2
variable {k : Nat} {Φ : Nat → Fn}
theorem bin_tup {xs ys : List D} (h : xs.length + ys.length ≤ Line) : binf .Add (.tup xs) (.tup ys) = some (.val (.tup (xs ++ ys))) := if_pos h
theorem bin_lst {xs ys : List D} (h : xs.length + ys.length ≤ Line) : binf .Add (.lst xs) (.lst ys) = some (.own (.lst (xs ++ ys))) := if_pos h
theorem allW {v s : Nat} {ρ : Sts} {ns : List Int} (h0 : ∀ i, Φ 0 [.int i] = .ok (.val (.bl true), [])) (hsrc : evVs Φ [.var s] ρ = .ok ([.tup (ns.map .int)], ρ)) (ho : ownAny ρ [v] = false) (hv : v < ρ.length) (hb : backE ρ (wipeE ρ [v]) [v] = ρ) (hl : ns.length ≤ 120)
    (hg : ∀ i ∈ ns, ∀ ρ2 : Sts, assignT (.name v false) (.val (.int i)) (wipeE ρ [v]) = some ρ2 → rel (ev Φ (.and (.call 0 [false] [(.var v)]) (.chain (.lit (.int 0)) .LtE (.var v) .LtE (.lit (.int 100000)))) ρ2) = .ok (.bl true, ρ2) ∧ wipeE ρ2 [v] = wipeE ρ [v]) :
    ev Φ (lcW v (.var s)) ρ = .ok (.own (.lst (ns.map fun _ => .bl true)), ρ) := by
  have hlen : (wipeE ρ [v]).length = ρ.length := by simp
  have e := ev_lcm (Φ := Φ) (vs := [v]) (t := .name v false) (k := .it) (src := [.var s]) (ifs := []) (elt := (.and (.call 0 [false] [(.var v)]) (.chain (.lit (.int 0)) .LtE (.var v) .LtE (.lit (.int 100000))))) (ρ := ρ) (ρ1 := ρ) (ds := [.tup (ns.map .int)]) (fun _ => true) (fun _ => .bl true) hsrc src_itT ho (fun x hx => by
    obtain ⟨i, hi, rfl⟩ := List.mem_map.mp hx
    have ha : assignT (.name v false) (.val (.int i)) (wipeE ρ [v]) = some ((wipeE ρ [v]).set v (.val (.int i))) := by
      show (if v < (wipeE ρ [v]).length then _ else _) = _
      rw [if_pos (by rw [hlen]; exact hv)]; rfl
    obtain ⟨h1, h2⟩ := hg i hi _ ha
    exact ⟨_, ha, rfl, fun _ => h1, h2⟩) (by simp; show _ ≤ 16777216; omega)
  have ft : ∀ l : List D, l.filter (fun _ => true) = l := fun l => List.filter_eq_self.mpr fun _ _ => rfl
  rw [ft, hb] at e
  rw [e]
  simp [Function.comp_def]
theorem flat_take {a b c : Int} {ws : List Int} {j : Nat} {w : Int} (h : ws[j]? = some w) : flat a b c (ws.take (j + 1)) = flat a b c (ws.take j) ++ [.box w, .spring a b c] := by
  rw [List.take_add_one, h]
  exact flat_snoc
end W
namespace W
open PySem DL L2
variable {k : Nat} {Φ : Nat → Fn}
theorem max0 {n : Nat} : opf .max [.lst [.int 0, .int ((n : Int) - 120)]] = some (.val (.int ((n - 120 : Nat) : Int))) := by
  show some (Slot.val (.int (if ((n : Int) - 120) > 0 then ((n : Int) - 120) else 0))) = _
  congr 3
  split <;> omega
end W
namespace W
open PySem DL L2
variable {k : Nat} {Φ : Nat → Fn}
theorem p31 : phi tab (k+1) 31 = runD (phi tab k) ⟨[false], 3, false, b31⟩ := rfl
abbrev mayB : E := (.or (.and (.op (.cmp .Eq) [(.op .ix [(.op .ix [(.var 0), (.var 2)]), (.lit (.int 0))]), (.lit (.str "fine"))]) (.op (.cmp .Lt) [(.op .ix [(.op .ix [(.var 0), (.var 2)]), (.lit (.int 1))]), (.lit (.int 10000))])) (.and (.op (.cmp .Eq) [(.op .ix [(.op .ix [(.var 0), (.var 2)]), (.lit (.int 0))]), (.lit (.str "spring"))]) (.and (.op (.cmp .Gt) [(.var 2), (.lit (.int 0))]) (.op (.cmp .Eq) [(.op .ix [(.op .ix [(.var 0), (.op (.bin .Sub) [(.var 2), (.lit (.int 1))])]), (.lit (.int 0))]), (.lit (.str "box"))]))))
theorem mayB_ok {its : List Itm} {f : Slot} {n : Nat} (hn : n < its.length) : tru (rel (ev Φ mayB [.val (.tup (ds its)), f, .val (.int n)])) = .ok (may its n, [.val (.tup (ds its)), f, .val (.int n)]) := by
  obtain ⟨it, h⟩ : ∃ it, its[n]? = some it := ⟨_, List.getElem?_eq_getElem hn⟩
  have a1 := at_ds h
  cases it with
  | box w =>
    have hm : may its n = false := by unfold may; rw [h]
    rw [hm]; clear h hm
    simp [a1, Itm.d]
  | fine c w m =>
    have hm : may its n = decide (c < 10000) := by unfold may; rw [h]
    rw [hm]; clear h hm
    by_cases hc : c < 10000 <;> simp [a1, Itm.d, hc]
  | spring a b c =>
    by_cases h0 : 0 < n
    · obtain ⟨j, hj⟩ : ∃ j, its[n - 1]? = some j := ⟨_, List.getElem?_eq_getElem (by omega)⟩
      have e : ((n : Int) - 1) = ((n - 1 : Nat) : Int) := by omega
      have a2 := at_ds hj
      have hm : may its n = j.isBox := by unfold may; rw [h, hj]; simp [h0]
      rw [hm]; clear h hm hj
      cases j <;> simp [a1, a2, Itm.d, h0, e, Itm.isBox]
    · have hm : may its n = false := by unfold may; rw [h]; simp [h0]
      rw [hm]; clear h hm
      have : n = 0 := by omega
      subst this
      simp at a1
      simp [a1, Itm.d]
theorem body31 {its : List Itm} (hl : its.length ≤ 1000) : runD Φ ⟨[false], 3, false, b31⟩ [.tup (ds its)] = .ok (.val (.lst (nums ((List.range its.length).filter (may its)))), []) := by
  have mk0 : mkf .lst [] = some (.own (.lst [])) := mkf_lst (by show 0 ≤ 16777216; omega)
  obtain ⟨ρ', f1, t, f2⟩ := evS_fora (Φ := Φ) (t := .name 2 false) (k := .rng) (src := [(.op .len [(.var 0)])]) (b := [(.ite mayB [(.exp (.mu .append 1 [(.var 2)]))] [])])
    (ρ := [.val (.tup (ds its)), .own (.lst []), .emp]) (ρ1 := [.val (.tup (ds its)), .own (.lst []), .emp]) (ds := [.int its.length]) (items := (List.range its.length).map fun k => D.int (k : Nat))
    (fun j ρ => ∃ t, ρ = [.val (.tup (ds its)), .own (.lst (nums ((List.range j).filter (may its)))), t]) (by simp [ds_len]) (src_rng (by omega)) (fun j x ρ hj ⟨t, ht⟩ => by
      subst ht
      rw [List.getElem?_map] at hj
      obtain ⟨n, hn, rfl⟩ := Option.map_eq_some_iff.mp hj
      obtain ⟨hlt, e⟩ := List.getElem?_eq_some_iff.mp hn
      rw [List.getElem_range] at e
      subst e
      rw [List.length_range] at hlt
      have m := mayB_ok (Φ := Φ) (f := .own (.lst (nums ((List.range j).filter (may its))))) hlt
      have hlen : (nums ((List.range j).filter (may its))).length ≤ j := by
        unfold nums
        rw [List.length_map]
        have := (List.filter_sublist (l := List.range j) (p := may its)).length_le
        rw [List.length_range] at this
        exact this
      have ap : muf .append (.lst (nums ((List.range j).filter (may its)))) [.int j] = some (.non, .lst (nums ((List.range j).filter (may its)) ++ [.int j])) := muf_app (by show _ < 16777216; omega)
      cases hm : may its j with
      | true =>
        rw [hm] at m
        have en : nums ((List.range (j + 1)).filter (may its)) = nums ((List.range j).filter (may its)) ++ [.int j] := by
          rw [List.range_succ, List.filter_append, List.filter_cons_of_pos hm]
          simp [nums]
        refine ⟨_, _, rfl, .inl ?_, .val (.int j), by rw [en]⟩
        show evSs Φ _ [.val (.tup (ds its)), .own (.lst (nums ((List.range j).filter (may its)))), .val (.int j)] = _
        rw [evSs_cons, evS_ite, m]
        simp [ap]
      | false =>
        rw [hm] at m
        have en : nums ((List.range (j + 1)).filter (may its)) = nums ((List.range j).filter (may its)) := by
          rw [List.range_succ, List.filter_append, List.filter_cons_of_neg (by simp [hm])]
          simp
        refine ⟨_, _, rfl, .inl ?_, .val (.int j), by rw [en]⟩
        show evSs Φ _ [.val (.tup (ds its)), .own (.lst (nums ((List.range j).filter (may its)))), .val (.int j)] = _
        rw [evSs_cons, evS_ite, m]
        simp) ⟨_, rfl⟩
  rw [List.length_map, List.length_range] at f2
  subst f2
  have e2 : evSs Φ b31 [.val (.tup (ds its)), .emp, .emp] = .ok (.rt (.own (.lst (nums ((List.range its.length).filter (may its))))) [.val (.tup (ds its)), .emp, t]) := by
    simp [b31, mk0, f1]
  exact runD_rt (d := ⟨[false], 3, false, b31⟩) (ds := [.tup (ds its)]) rfl e2 rfl rfl
end W
namespace W
open PySem DL L2
variable {k : Nat} {Φ : Nat → Fn}
theorem q26 : b26 = drawB := rfl
theorem q25 : b25 = startB := rfl
theorem q27 : b27 = pickB 26 := rfl
theorem q28 : b28 = sameB := rfl
theorem f26 {d : D} {m : Int} (hm : 0 < m) (hm2 : m < 1073741824) (h : IsSt d) : ∃ v d', phi tab (k+1) 26 [d, .int m] = .ok (.val (.int v), [d']) ∧ 0 ≤ v ∧ v < m ∧ IsSt d' :=
  draw_ok (Φ := phi tab k) (ro := false) hm hm2 h
theorem f27 {d : D} {xs : List D} (h0 : xs ≠ []) (h1 : xs.length < 1073741824) (h : IsSt d) : ∃ x d', phi tab (k+2) 27 [d, .lst xs] = .ok (.val x, [d']) ∧ x ∈ xs ∧ IsSt d' :=
  pick_ok (Φ := phi tab (k+1)) (j := 26) (ro := false) (.inr ⟨phi tab k, rfl⟩) h0 h1 h
theorem f25 {l : List Int} : ∃ d', phi tab (k+1) 25 [.rol (l.map .int)] = .ok (.own d', []) ∧ IsSt d' :=
  start_ok (Φ := phi tab k)
theorem f28 {d : D} (h : reprOk d = true) : phi tab (k+1) 28 [d, d] = .ok (.val (.bl true), []) :=
  same_ok (Φ := phi tab k) h
end W
namespace W
open PySem DL L2
/-! ## what is compared can be shown -/
theorem nice_int {i : Int} (h1 : -1000000000 ≤ i) (h2 : i ≤ 1000000000) : nice (.int i) = true := by
  simp only [nice, decide_eq_true_eq]
  have : i.natAbs ≤ 1000000000 := by omega
  exact Nat.lt_of_le_of_lt this (by decide)
theorem okB : PyData.strOk (Str.ofString "box") = true := by decide +kernel
theorem okS : PyData.strOk (Str.ofString "spring") = true := by decide +kernel
theorem okF : PyData.strOk (Str.ofString "fine") = true := by decide +kernel
theorem nice_item {it : Itm} (h : it.ok) : nice it.d.py = true := by
  cases it with
  | box w =>
    have := nice_int (i := w) (by have := h.1; omega) (by have := h.2; omega)
    simp [Itm.d, D.py, D.pys, nice, nices] at this ⊢
    exact ⟨okB, this⟩
  | spring a b c =>
    obtain ⟨⟨a1, a2⟩, ⟨b1, b2⟩, c1, c2⟩ := h
    have ha := nice_int (i := a) (by omega) (by omega)
    have hb := nice_int (i := b) (by omega) (by omega)
    have hc := nice_int (i := c) (by omega) (by omega)
    simp [Itm.d, D.py, D.pys, nice, nices] at ha hb hc ⊢
    exact ⟨okS, ha, hb, hc⟩
  | fine c w m =>
    obtain ⟨⟨a1, a2⟩, b1, b2⟩ := h
    have ha := nice_int (i := c) (by omega) (by omega)
    have hb := nice_int (i := w) (by omega) (by omega)
    simp [Itm.d, D.py, D.pys, nice, nices] at ha hb ⊢
    exact ⟨okF, ha, hb⟩
theorem nice_items {r : List Itm} (h : ∀ it ∈ r, it.ok) : nices (D.pys (ds r)) = true := by
  induction r with
  | nil => rfl
  | cons it r ih =>
    show (nice it.d.py && nices (D.pys (ds r))) = true
    rw [nice_item (h it List.mem_cons_self), ih fun x hx => h x (List.mem_cons_of_mem _ hx)]; rfl
theorem wid_item (it : Itm) : wid it.d.py ≤ 140 := by
  have b : (Str.ofString "box").length = 3 := by decide
  have s : (Str.ofString "spring").length = 6 := by decide
  have f : (Str.ofString "fine").length = 4 := by decide
  cases it <;> simp [Itm.d, D.py, D.pys, wid, wids, b, s, f]
theorem wid_items (r : List Itm) : wids (D.pys (ds r)) ≤ 142 * r.length := by
  induction r with
  | nil => simp [ds, D.pys, wids]
  | cons it r ih =>
    have := wid_item it
    show wid it.d.py + 2 + wids (D.pys (ds r)) ≤ _
    rw [List.length_cons]
    omega
end W
namespace W
open PySem DL L2
variable {k : Nat} {Φ : Nat → Fn}
theorem p29 : phi tab (k+1) 29 = runD (phi tab k) ⟨[true, false], 8, false, b29⟩ := rfl
structure Draws (Φ : Nat → Fn) : Prop where
  dr : ∀ (d : D) (m : Int), 0 < m → m < 1073741824 → IsSt d → ∃ v d', Φ 26 [d, .int m] = .ok (.val (.int v), [d']) ∧ 0 ≤ v ∧ v < m ∧ IsSt d'
  pk : ∀ (d : D) (xs : List D), xs ≠ [] → xs.length < 1073741824 → IsSt d → ∃ x d', Φ 27 [d, .lst xs] = .ok (.val x, [d']) ∧ x ∈ xs ∧ IsSt d'
theorem draws_phi : Draws (phi tab (k+2)) := ⟨fun d m h1 h2 h => f26 h1 h2 h, fun d xs h1 h2 h => f27 h1 h2 h⟩
def turnB : List S := [(.asg (.name 6 false) (.ife (.op (.cmp .Eq) [(.var 2), (.lit (.int 0))]) (.op (.bin .BitAnd) [(.var 3), (.lit (.int 1))]) (.call 26 [true, false] [(.var 0), (.lit (.int 4))]))), (.ite (.or (.op (.cmp .Eq) [(.var 6), (.lit (.int 0))]) (.and (.op (.cmp .Eq) [(.var 6), (.lit (.int 3))]) (.op (.cmp .Eq) [(.var 2), (.lit (.int 1))]))) [(.exp (.mu .append 4 [(.mk .tup [(.lit (.str "box")), (.call 26 [true, false] [(.var 0), (.op (.bin .Add) [(.var 5), (.lit (.int 1))])])])]))] [(.ite (.op (.cmp .Eq) [(.var 6), (.lit (.int 1))]) [(.exp (.mu .append 4 [(.mk .tup [(.lit (.str "spring")), (.call 26 [true, false] [(.var 0), (.op (.bin .Add) [(.op (.bin .FloorDiv) [(.var 5), (.lit (.int 3))]), (.lit (.int 1))])]), (.call 26 [true, false] [(.var 0), (.op (.bin .Add) [(.op (.bin .FloorDiv) [(.var 5), (.lit (.int 2))]), (.lit (.int 1))])]), (.call 26 [true, false] [(.var 0), (.op (.bin .Add) [(.op (.bin .FloorDiv) [(.var 5), (.lit (.int 4))]), (.lit (.int 1))])])])]))] [(.asg (.name 7 false) (.call 27 [true, false] [(.var 0), (.mk .lst [(.lit (.int 0)), (.lit (.int 50)), (.op .neg [(.lit (.int 50))]), (.lit (.int 10000)), (.lit (.int 9999)), (.op .neg [(.lit (.int 9999))]), (.ife (.op (.cmp .Eq) [(.var 2), (.lit (.int 2))]) (.op .neg [(.lit (.int 10000))]) (.lit (.int 1))), (.op (.bin .Sub) [(.call 26 [true, false] [(.var 0), (.lit (.int 20001))]), (.lit (.int 10000))])])])), (.exp (.mu .append 4 [(.mk .tup [(.lit (.str "fine")), (.var 7), (.call 27 [true, false] [(.var 0), (.mk .lst [(.lit (.int 0)), (.lit (.int 0)), (.call 26 [true, false] [(.var 0), (.op (.bin .Add) [(.op (.bin .FloorDiv) [(.var 5), (.lit (.int 4))]), (.lit (.int 1))])])])]), (.op (.cmp .Eq) [(.call 26 [true, false] [(.var 0), (.lit (.int 2))]), (.lit (.int 0))])])]))])])]
theorem fdv {x m : Int} (h : divOk m = true) : binf .FloorDiv (.int x) (.int m) = some (.val (.int (x.fdiv m))) := if_pos h
theorem fd_lo {x m : Int} (hx : 0 ≤ x) (hm : 0 < m) : 0 ≤ x.fdiv m := Int.fdiv_nonneg hx (by omega)
theorem fd_hi {x m : Int} (hx : 0 ≤ x) (hm : 0 < m) : x.fdiv m ≤ x := by
  rw [Int.fdiv_eq_ediv_of_nonneg _ (by omega)]
  exact Int.ediv_le_self _ hx
theorem turn_ok (dw : Draws Φ) {st : D} (hs : IsSt st) {most style top kk : Int} {t6 t7 : Slot} {its : List Itm} (hst : 0 ≤ style ∧ style < 3) (ht : 0 ≤ top ∧ top ≤ 100000) (hn : its.length ≤ 200) :
    ∃ st' it t6' t7', evSs Φ turnB [.io st, .val (.int most), .val (.int style), .val (.int kk), .own (.lst (ds its)), .val (.int top), t6, t7] = .ok (.nx [.io st', .val (.int most), .val (.int style), .val (.int kk), .own (.lst (ds (its ++ [it]))), .val (.int top), t6', t7']) ∧ IsSt st' ∧ it.ok := by
  have d2 : divOk 2 = true := by decide
  have d3 : divOk 3 = true := by decide
  have d4 : divOk 4 = true := by decide
  have ap : ∀ y : D, muf .append (.lst (ds its)) [y] = some (.non, .lst (ds its ++ [y])) := fun y => muf_app (by rw [ds_len]; show _ < 16777216; omega)
  have mkb : ∀ w : Int, mkf .tup [.str "box", .int w] = some (.val (Itm.box w).d) := fun w => mkf_tup (by show 2 ≤ 16777216; omega)
  have mks : ∀ a b c : Int, mkf .tup [.str "spring", .int a, .int b, .int c] = some (.val (Itm.spring a b c).d) := fun a b c => mkf_tup (by show 4 ≤ 16777216; omega)
  have mkfi : ∀ (a b : Int) (m : Bool), mkf .tup [.str "fine", .int a, .int b, .bl m] = some (.val (Itm.fine a b m).d) := fun a b m => mkf_tup (by show 4 ≤ 16777216; omega)
  -- the pick
  obtain ⟨pick, st1, e1, hs1⟩ : ∃ pick st1, ev Φ (.ife (.op (.cmp .Eq) [(.var 2), (.lit (.int 0))]) (.op (.bin .BitAnd) [(.var 3), (.lit (.int 1))]) (.call 26 [true, false] [(.var 0), (.lit (.int 4))])) [.io st, .val (.int most), .val (.int style), .val (.int kk), .own (.lst (ds its)), .val (.int top), t6, t7] = .ok (.val (.int pick), [.io st1, .val (.int most), .val (.int style), .val (.int kk), .own (.lst (ds its)), .val (.int top), t6, t7]) ∧ IsSt st1 := by
    by_cases h0 : style = 0
    · refine ⟨Builtin.bitAnd kk 1, st, ?_, hs⟩
      have ba : binf .BitAnd (.int kk) (.int 1) = some (.val (.int (Builtin.bitAnd kk 1))) := rfl
      simp [h0, ba]
    · obtain ⟨v, d', e, _, _, s'⟩ := dw.dr st 4 (by decide) (by decide) hs
      exact ⟨v, d', by simp [h0, e], s'⟩
  by_cases hb : pick = 0 ∨ (pick = 3 ∧ style = 1)
  · obtain ⟨v, st2, e2, lo, hi, hs2⟩ := dw.dr st1 (top + 1) (by omega) (by omega) hs1
    refine ⟨st2, .box v, .val (.int pick), t7, ?_, hs2, by show 0 ≤ v ∧ v ≤ 100000; omega⟩
    rw [ds_app, ds_one]
    rcases hb with hb | ⟨hb, hb2⟩
    · simp [turnB, e1, hb, e2, mkb, ap]
    · subst hb2
      simp [turnB, e1, hb, e2, mkb, ap]
  · by_cases hp : pick = 1
    · have t3 := fd_lo (x := top) (m := 3) ht.1 (by decide)
      have t3' := fd_hi (x := top) (m := 3) ht.1 (by decide)
      have t2 := fd_lo (x := top) (m := 2) ht.1 (by decide)
      have t2' := fd_hi (x := top) (m := 2) ht.1 (by decide)
      have t4 := fd_lo (x := top) (m := 4) ht.1 (by decide)
      have t4' := fd_hi (x := top) (m := 4) ht.1 (by decide)
      obtain ⟨a, st2, e2, lo2, hi2, hs2⟩ := dw.dr st1 (top.fdiv 3 + 1) (by omega) (by omega) hs1
      obtain ⟨b, st3, e3, lo3, hi3, hs3⟩ := dw.dr st2 (top.fdiv 2 + 1) (by omega) (by omega) hs2
      obtain ⟨c, st4, e4, lo4, hi4, hs4⟩ := dw.dr st3 (top.fdiv 4 + 1) (by omega) (by omega) hs3
      refine ⟨st4, .spring a b c, .val (.int pick), t7, ?_, hs4, by show (0 ≤ a ∧ a ≤ 100000) ∧ (0 ≤ b ∧ b ≤ 100000) ∧ (0 ≤ c ∧ c ≤ 100000); omega⟩
      rw [ds_app, ds_one]
      have f3 := fdv (x := top) d3
      have f2 := fdv (x := top) d2
      have f4 := fdv (x := top) d4
      simp [turnB, e1, hp, e2, e3, e4, f2, f3, f4, mks, ap]
    · have t4 := fd_lo (x := top) (m := 4) ht.1 (by decide)
      have t4' := fd_hi (x := top) (m := 4) ht.1 (by decide)
      have f4 := fdv (x := top) d4
      obtain ⟨v, st2, e2, lo2, hi2, hs2⟩ := dw.dr st1 20001 (by decide) (by decide) hs1
      obtain ⟨x, st3, e3, hx, hs3⟩ := dw.pk st2 [.int 0, .int 50, .int (-50), .int 10000, .int 9999, .int (-9999), .int (if style = 2 then -10000 else 1), .int (v - 10000)] (by simp) (by simp) hs2
      obtain ⟨cost, rfl, hc⟩ : ∃ cost, x = .int cost ∧ -10000 ≤ cost ∧ cost ≤ 10000 := by
        simp at hx
        rcases hx with rfl | rfl | rfl | rfl | rfl | rfl | rfl | rfl
        · exact ⟨_, rfl, by decide, by decide⟩
        · exact ⟨_, rfl, by decide, by decide⟩
        · exact ⟨_, rfl, by decide, by decide⟩
        · exact ⟨_, rfl, by decide, by decide⟩
        · exact ⟨_, rfl, by decide, by decide⟩
        · exact ⟨_, rfl, by decide, by decide⟩
        · exact ⟨_, rfl, by split <;> decide, by split <;> decide⟩
        · exact ⟨_, rfl, by omega, by omega⟩
      obtain ⟨u, st4, e4, lo4, hi4, hs4⟩ := dw.dr st3 (top.fdiv 4 + 1) (by omega) (by omega) hs3
      obtain ⟨y, st5, e5, hy, hs5⟩ := dw.pk st4 [.int 0, .int 0, .int u] (by simp) (by simp) hs4
      obtain ⟨w, rfl, hw⟩ : ∃ w, y = .int w ∧ 0 ≤ w ∧ w ≤ 100000 := by
        simp at hy
        rcases hy with rfl | rfl
        · exact ⟨_, rfl, by decide, by decide⟩
        · exact ⟨_, rfl, by omega, by omega⟩
      obtain ⟨z, st6, e6, lo6, hi6, hs6⟩ := dw.dr st5 2 (by decide) (by decide) hs5
      refine ⟨st6, .fine cost w (decide (z = 0)), .val (.int pick), .val (.int cost), ?_, hs6, hc, hw⟩
      rw [ds_app, ds_one]
      have mk8 : ∀ a b c d e f g h : D, mkf .lst [a, b, c, d, e, f, g, h] = some (.own (.lst [a, b, c, d, e, f, g, h])) := fun a b c d e f g h => mkf_lst (by show 8 ≤ 16777216; omega)
      have mk3 : ∀ a b c : D, mkf .lst [a, b, c] = some (.own (.lst [a, b, c])) := fun a b c => mkf_lst (by show 3 ≤ 16777216; omega)
      have nb1 : ¬ (pick = 0) := fun q => hb (.inl q)
      by_cases hs2' : style = 2
      · rw [if_pos hs2'] at e3
        subst hs2'
        by_cases h3 : pick = 3
        · simp [turnB, e1, h3, e2, e3, e4, e5, e6, f4, mk8, mk3, mkfi, ap]
        · simp [turnB, e1, hp, nb1, h3, e2, e3, e4, e5, e6, f4, mk8, mk3, mkfi, ap]
      · rw [if_neg hs2'] at e3
        by_cases h3 : pick = 3
        · have h1 : ¬ (style = 1) := fun q => hb (.inr ⟨h3, q⟩)
          simp [turnB, e1, h3, h1, hs2', e2, e3, e4, e5, e6, f4, mk8, mk3, mkfi, ap]
        · simp [turnB, e1, hp, nb1, h3, hs2', e2, e3, e4, e5, e6, f4, mk8, mk3, mkfi, ap]
end W
namespace W
open PySem DL L2
variable {k : Nat} {Φ : Nat → Fn}
theorem body29 (dw : Draws Φ) {st : D} (hs : IsSt st) {most : Int} (hm : 0 < most) (hm2 : most ≤ 120) : ∃ its st', runD Φ ⟨[true, false], 8, false, b29⟩ [st, .int most] = .ok (.val (.tup (ds its)), [st']) ∧ Good its ∧ IsSt st' := by
  have mk0 : mkf .lst [] = some (.own (.lst [])) := mkf_lst (by show 0 ≤ 16777216; omega)
  have mk3 : ∀ a b c : D, mkf .lst [a, b, c] = some (.own (.lst [a, b, c])) := fun a b c => mkf_lst (by show 3 ≤ 16777216; omega)
  have mk4 : ∀ a b c d : D, mkf .lst [a, b, c, d] = some (.own (.lst [a, b, c, d])) := fun a b c d => mkf_lst (by show 4 ≤ 16777216; omega)
  have mkt : ∀ a : D, mkf .tup [a] = some (.val (.tup [a])) := fun a => mkf_tup (by show 1 ≤ 16777216; omega)
  have mkfi : ∀ (a b : Int) (m : Bool), mkf .tup [.str "fine", .int a, .int b, .bl m] = some (.val (Itm.fine a b m).d) := fun a b m => mkf_tup (by show 4 ≤ 16777216; omega)
  obtain ⟨x, st1, e1, hx, hs1⟩ := dw.pk st [.int 4, .int 30, .int 100000] (by simp) (by simp) hs
  obtain ⟨top, rfl, ht⟩ : ∃ top, x = .int top ∧ 0 ≤ top ∧ top ≤ 100000 := by
    simp at hx
    rcases hx with rfl | rfl | rfl
    · exact ⟨_, rfl, by decide, by decide⟩
    · exact ⟨_, rfl, by decide, by decide⟩
    · exact ⟨_, rfl, by decide, by decide⟩
  obtain ⟨style, st2, e2, lo2, hi2, hs2⟩ := dw.dr st1 3 (by decide) (by decide) hs1
  obtain ⟨n, st3, e3, lo3, hi3, hs3⟩ := dw.dr st2 most hm (by omega) hs2
  obtain ⟨N, rfl⟩ : ∃ N : Nat, n = N := ⟨n.toNat, by omega⟩
  obtain ⟨ρ', f1, st4, its, t3, t6, t7, f2, hs4, hok, hlen⟩ := evS_fora (Φ := Φ) (t := .name 3 false) (k := .rng) (src := [(.call 26 [true, false] [(.var 0), (.var 1)])]) (b := turnB)
    (ρ := [.io st2, .val (.int most), .val (.int style), .emp, .own (.lst []), .val (.int top), .emp, .emp]) (ρ1 := [.io st3, .val (.int most), .val (.int style), .emp, .own (.lst []), .val (.int top), .emp, .emp]) (ds := [.int N]) (items := (List.range N).map fun k => D.int (k : Nat))
    (fun j ρ => ∃ st its t3 t6 t7, ρ = [.io st, .val (.int most), .val (.int style), t3, .own (.lst (ds its)), .val (.int top), t6, t7] ∧ IsSt st ∧ (∀ it ∈ its, Itm.ok it) ∧ its.length = j) (by simp [e3]) (src_rng (by omega)) (fun j x ρ hj ⟨st, its, t3, t6, t7, hρ, hst, hok, hlen⟩ => by
      subst hρ
      rw [List.getElem?_map] at hj
      obtain ⟨m, hn, rfl⟩ := Option.map_eq_some_iff.mp hj
      have hlt : j < N := by have := (List.getElem?_eq_some_iff.mp hn).1; simpa using this
      obtain ⟨st', it, t6', t7', e, hst', hit⟩ := turn_ok dw hst (most := most) (style := style) (top := top) (kk := m) (t6 := t6) (t7 := t7) (its := its) ⟨lo2, hi2⟩ ht (by omega)
      refine ⟨[.io st, .val (.int most), .val (.int style), .val (.int m), .own (.lst (ds its)), .val (.int top), t6, t7], _, rfl, .inl e, st', its ++ [it], .val (.int m), t6', t7', rfl, hst', fun y hy => ?_, by simp [hlen]⟩
      rcases List.mem_append.mp hy with hy | hy
      · exact hok y hy
      · have := List.mem_singleton.mp hy
        subst this; exact hit) ⟨st3, [], .emp, .emp, .emp, rfl, hs3, by simp, rfl⟩
  rw [List.length_map, List.length_range] at hlen
  subst f2
  obtain ⟨y, st5, e5, hy, hs5⟩ := dw.pk st4 [.int 0, .int 0, .int 0, .int 2] (by simp) (by simp) hs4
  obtain ⟨w, rfl, hw⟩ : ∃ w, y = .int w ∧ 0 ≤ w ∧ w ≤ 100000 := by
    simp at hy
    rcases hy with rfl | rfl
    · exact ⟨_, rfl, by decide, by decide⟩
    · exact ⟨_, rfl, by decide, by decide⟩
  obtain ⟨z, st6, e6, lo6, hi6, hs6⟩ := dw.dr st5 4 (by decide) (by decide) hs5
  have add : binf .Add (.tup (ds its)) (.tup [(Itm.fine (-10000) w (decide (z = 0))).d]) = some (.val (.tup (ds its ++ [(Itm.fine (-10000) w (decide (z = 0))).d]))) := bin_tup (by rw [ds_len]; show _ ≤ 16777216; simp; omega)
  refine ⟨its ++ [.fine (-10000) w (decide (z = 0))], st6, ?_, ⟨by simp; omega, fun it hit => ?_, its, w, decide (z = 0), rfl⟩, hs6⟩
  · have f1' := f1
    unfold turnB at f1'
    have fin : evSs Φ b29 [.io st, .val (.int most), .emp, .emp, .emp, .emp, .emp, .emp] = .ok (.rt (.val (.tup (ds (its ++ [.fine (-10000) w (decide (z = 0))])))) [.io st6, .val (.int most), .val (.int style), t3, .own (.lst (ds its)), .val (.int top), t6, t7]) := by
      rw [ds_app, ds_one]
      simp [b29, mk0, mk3, mk4, mkt, e1, e2, f1', e5, e6, mkfi, add]
    exact runD_rt (d := ⟨[true, false], 8, false, b29⟩) (ds := [st, .int most]) rfl fin rfl rfl
  · rcases List.mem_append.mp hit with h | h
    · exact hok it h
    · have := List.mem_singleton.mp h
      subst this
      exact ⟨⟨by decide, by decide⟩, hw⟩
end W
namespace W
open PySem DL L2
variable {k : Nat} {Φ : Nat → Fn}
def IsPair (its : List Itm) (d : D) : Prop := ∃ (first : Int) (l : Nat), d = .tup [.int first, .int l] ∧ Brk its first l
theorem mem_nums {l : List Nat} {d : D} (h : d ∈ nums l) : ∃ n ∈ l, d = .int (n : Nat) := by
  obtain ⟨n, h1, rfl⟩ := List.mem_map.mp h
  exact ⟨n, h1, rfl⟩
theorem pair_ok {st x : D} {its : List Itm} {ps : List D} {l : Nat} {bs : List Nat} (hb : bs.length ≤ 120) :
    ev Φ (.lc [6] (.name 6 false) .it [(.op (.bin .Add) [(.mk .lst [(.op .neg [(.lit (.int 1))])]), (.var 2)])] [(.op (.cmp .Lt) [(.var 6), (.var 4)])] (.mk .tup [(.var 6), (.var 4)])) [.io st, .val x, .val (.lst (nums bs)), .own (.lst ps), .val (.int l), .emp, .emp] =
      .ok (.own (.lst (((.int (-1) :: nums bs).filter fun d => match d with
        | .int i => decide (i < l)
        | _ => false).map fun d => .tup [d, .int l])), [.io st, .val x, .val (.lst (nums bs)), .own (.lst ps), .val (.int l), .emp, .emp]) := by
  have mk1 : ∀ a : D, mkf .lst [a] = some (.own (.lst [a])) := fun a => mkf_lst (by show 1 ≤ 16777216; omega)
  have mk2 : ∀ a b : D, mkf .tup [a, b] = some (.val (.tup [a, b])) := fun a b => mkf_tup (by show 2 ≤ 16777216; omega)
  have hl : (nums bs).length = bs.length := by simp [nums]
  have add : binf .Add (.lst [.int (-1)]) (.lst (nums bs)) = some (.own (.lst (.int (-1) :: nums bs))) := bin_lst (by rw [hl]; show _ ≤ 16777216; simp; omega)
  exact ev_lcm (Φ := Φ) (ρ1 := [.io st, .val x, .val (.lst (nums bs)), .own (.lst ps), .val (.int l), .emp, .emp]) (ds := [.lst (.int (-1) :: nums bs)]) _ _ (by simp [mk1, add]) src_itL rfl (fun y hy => by
    obtain ⟨i, rfl⟩ : ∃ i, y = .int i := by
      rcases List.mem_cons.mp hy with rfl | h
      · exact ⟨_, rfl⟩
      · obtain ⟨n, _, rfl⟩ := mem_nums h; exact ⟨_, rfl⟩
    refine ⟨[.io st, .val x, .val (.lst (nums bs)), .own (.lst ps), .val (.int l), .emp, .val (.int i)], rfl, ?_, fun _ => by simp [mk2], rfl⟩
    by_cases h : i < l <;> simp [h]) (by simp [hl]; show _ ≤ 16777216; omega)
end W
namespace W
open PySem DL L2
variable {k : Nat} {Φ : Nat → Fn}
end W
namespace W
open PySem DL L2
variable {k : Nat} {Φ : Nat → Fn}
theorem f31 {its : List Itm} (hl : its.length ≤ 1000) : phi tab (k+1) 31 [.tup (ds its)] = .ok (.val (.lst (nums ((List.range its.length).filter (may its)))), []) := by
  rw [p31]; exact body31 hl
theorem f29 {st : D} (hs : IsSt st) {most : Int} (hm : 0 < most) (hm2 : most ≤ 120) : ∃ its st', phi tab (k+3) 29 [st, .int most] = .ok (.val (.tup (ds its)), [st']) ∧ Good its ∧ IsSt st' :=
  body29 (draws_phi (k := k)) hs hm hm2
end W
namespace W
open PySem DL L2
theorem repr_bl (b : Bool) : reprOk (.bl b) = true := reprOk_by rfl rfl (Nat.zero_le _) (by show 5 ≤ 16777216; omega)
theorem pures_ds (r : List Itm) : D.pures (ds r) = true := by
  induction r with
  | nil => rfl
  | cons it r ih =>
    show (it.d.pure && D.pures (ds r)) = true
    rw [ih]; cases it <;> rfl
theorem dep_item (it : Itm) : it.d.py.depth = 1 := by
  cases it <;> rfl
theorem dep_ds (r : List Itm) : PyData.depthAll (D.pys (ds r)) ≤ 1 := by
  induction r with
  | nil => exact Nat.zero_le _
  | cons it r ih =>
    show max it.d.py.depth (PyData.depthAll (D.pys (ds r))) ≤ 1
    rw [dep_item]; omega
theorem repr_tup {r : List Itm} (h : ∀ it ∈ r, it.ok) (hl : r.length ≤ 1000) : reprOk (.tup (ds r)) = true := by
  refine reprOk_by (by show D.pures (ds r) = true; exact pures_ds r) (by show nices (D.pys (ds r)) = true; exact nice_items h) ?_ ?_
  · show PyData.depthAll (D.pys (ds r)) + 1 ≤ 64
    have := dep_ds r; omega
  · show wids (D.pys (ds r)) + 3 ≤ 16777216
    have := wid_items r; omega
end W
namespace W
open PySem DL L2
theorem pures_nums (l : List Nat) : D.pures (nums l) = true := by
  induction l with
  | nil => rfl
  | cons n l ih => show (true && D.pures (nums l)) = true; rw [ih]; rfl
theorem dep_nums (l : List Nat) : PyData.depthAll (D.pys (nums l)) = 0 := by
  induction l with
  | nil => rfl
  | cons n l ih => show max 0 (PyData.depthAll (D.pys (nums l))) = 0; rw [ih]; rfl
theorem nice_nums {l : List Nat} (h : ∀ n ∈ l, n ≤ 1000) : nices (D.pys (nums l)) = true := by
  induction l with
  | nil => rfl
  | cons n l ih =>
    show (nice (.int (n : Nat)) && nices (D.pys (nums l))) = true
    have := h n List.mem_cons_self
    rw [nice_int (by omega) (by omega), ih fun m hm => h m (List.mem_cons_of_mem _ hm)]; rfl
theorem wid_nums (l : List Nat) : wids (D.pys (nums l)) = 23 * l.length := by
  induction l with
  | nil => rfl
  | cons n l ih => show 21 + 2 + wids (D.pys (nums l)) = _; rw [ih, List.length_cons]; omega
theorem repr_places {l : List Nat} (h : ∀ n ∈ l, n ≤ 1000) (hl : l.length ≤ 1000) : reprOk (.lst [.non, .tup (nums l)]) = true := by
  refine reprOk_by (by show (true && (D.pures (nums l) && true)) = true; rw [pures_nums]; rfl) (by show (true && (nices (D.pys (nums l)) && true)) = true; rw [nice_nums h]; rfl) ?_ ?_
  · show max 0 (max (PyData.depthAll (D.pys (nums l)) + 1) 0) + 1 ≤ 64
    rw [dep_nums]; decide
  · show (4 + 2 + ((wids (D.pys (nums l)) + 3) + 2 + 0)) + 3 ≤ 16777216
    rw [wid_nums]; omega
end W
namespace W
open PySem DL L2
theorem sum_bnd {f : Itm → Int} {r : List Itm} (h : ∀ it ∈ r, 0 ≤ f it ∧ f it ≤ 100000) : 0 ≤ (r.map f).sum ∧ (r.map f).sum ≤ 100000 * r.length := by
  induction r with
  | nil => simp
  | cons it r ih =>
    have h1 := h it List.mem_cons_self
    have h2 := ih fun x hx => h x (List.mem_cons_of_mem _ hx)
    rw [List.map_cons, List.sum_cons, List.length_cons]
    omega
theorem repr_line {r : List Itm} (h : ∀ it ∈ r, it.ok) (hr : Row r) : reprOk (.lst [.tup (ds r), sumI r]) = true := by
  have b1 := sum_bnd (f := Itm.n1) (r := r) (fun it hit => by
    have o := h it hit
    have n := hr.nf it hit
    cases it with
    | fine _ _ _ => cases n
    | box w => exact o
    | spring a b c => exact o.1)
  have fl : (r.filter Itm.isSpring).length ≤ r.length := (List.filter_sublist).length_le
  have b2 := sum_bnd (f := Itm.n2) (r := r.filter Itm.isSpring) (fun it hit => by
    obtain ⟨m1, m2⟩ := List.mem_filter.mp hit
    obtain ⟨a, b, c, rfl⟩ := spring_of m2
    exact (h _ m1).2.1)
  have b3 := sum_bnd (f := Itm.n3) (r := r.filter Itm.isSpring) (fun it hit => by
    obtain ⟨m1, m2⟩ := List.mem_filter.mp hit
    obtain ⟨a, b, c, rfl⟩ := spring_of m2
    exact (h _ m1).2.2)
  have hl := hr.len
  have n1 := nice_int (i := (r.map Itm.n1).sum) (by omega) (by omega)
  have n2 := nice_int (i := ((r.filter Itm.isSpring).map Itm.n2).sum) (by omega) (by omega)
  have n3 := nice_int (i := ((r.filter Itm.isSpring).map Itm.n3).sum) (by omega) (by omega)
  refine reprOk_by (by show (D.pures (ds r) && (true && true)) = true; rw [pures_ds]; rfl) ?_ ?_ ?_
  · show (nices (D.pys (ds r)) && ((nice (.int _) && (nice (.int _) && (nice (.int _) && true))) && true)) = true
    rw [nice_items h, n1, n2, n3]; rfl
  · show max (PyData.depthAll (D.pys (ds r)) + 1) (max (max 0 (max 0 (max 0 0)) + 1) 0) + 1 ≤ 64
    have := dep_ds r; omega
  · show ((wids (D.pys (ds r)) + 3) + 2 + (((21 + 2 + (21 + 2 + (21 + 2 + 0))) + 3) + 2 + 0)) + 3 ≤ 16777216
    have := wid_items r; omega
end W
namespace W
open PySem DL L2
theorem line_all {its : List Itm} (g : ∀ it ∈ its, it.ok) {first : Int} {l : Nat} : ∀ it ∈ lineI its first l, it.ok := by
  intro it hit
  unfold lineI at hit
  rcases List.mem_append.mp hit with h | h
  · exact g it (List.mem_of_mem_drop (List.mem_of_mem_take (List.mem_filter.mp (show it ∈ midI its (beg its first) l from h)).1))
  · unfold endI at h
    split at h
    · rename_i c w m e
      split at h
      · have := List.mem_singleton.mp h
        subst this
        exact (g _ (List.mem_of_getElem? e)).2
      · cases h
    · cases h
end W
namespace DL
open PySem L2
/-! ## loops over typed data -/
section
variable {Φ : Nat → Fn} {vs : List Nat} {t : T} {k : Sk} {src ifs : List E} {elt : E} {ρ ρ1 : Sts} {ds : List D} {b : List S}
theorem lcl_ty {α : Type} {f : Sts → R Sts (Bool × Sts)} {g : Sts → R Sts (D × Sts)} (enc : α → D) (p : α → Bool) (h : α → D) {ρ : Sts} : ∀ (xs : List α) (acc : List D),
    (∀ a ∈ xs, ∃ ρ1, assignT t (.val (enc a)) ρ = some ρ1 ∧ f ρ1 = .ok (p a, ρ1) ∧ (p a = true → g ρ1 = .ok (h a, ρ1)) ∧ wipeE ρ1 vs = ρ) → acc.length + xs.length ≤ Line → lcLoop vs t f g (xs.map enc) acc ρ = .ok (acc ++ (xs.filter p).map h, ρ)
  | [], acc, _, _ => by simp
  | x :: xs, acc, hs, hl => by
    obtain ⟨ρ1, e1, e2, e3, e4⟩ := hs x List.mem_cons_self
    have rest := fun y hy => hs y (List.mem_cons_of_mem _ hy)
    rw [List.length_cons] at hl
    rw [List.map_cons, lc_step, e1, R.ofO_some, R.bind_ok, e2, R.bind_ok]
    cases hp : p x with
    | true =>
      rw [if_pos rfl, e3 hp, R.bind_ok, if_pos (by omega), e4, lcl_ty enc p h xs _ rest (by simp; omega), List.filter_cons_of_pos hp]
      simp
    | false =>
      rw [if_neg (by simp), e4, lcl_ty enc p h xs acc rest (by omega), List.filter_cons_of_neg (by simp [hp])]
/-- [elt for x in src if ..] over data of a type -/
theorem lc_ty {α : Type} (xs : List α) (enc : α → D) (p : α → Bool) (h : α → D) (hs : evVs Φ src ρ = .ok (ds, ρ1)) (hi : srcf k ds = some (xs.map enc)) (ho : ownAny ρ1 vs = false)
    (st : ∀ a ∈ xs, ∃ ρ2, assignT t (.val (enc a)) (wipeE ρ1 vs) = some ρ2 ∧ evTs Φ ifs ρ2 = .ok (p a, ρ2) ∧ (p a = true → rel (ev Φ elt ρ2) = .ok (h a, ρ2)) ∧ wipeE ρ2 vs = wipeE ρ1 vs) (hl : xs.length ≤ Line) :
    ev Φ (.lc vs t k src ifs elt) ρ = .ok (.own (.lst ((xs.filter p).map h)), backE ρ1 (wipeE ρ1 vs) vs) := by
  show ((evVs Φ src ρ).bind fun p => match srcf k p.1 with
    | some items => if ownAny p.2 vs then .bad else
        (noExc (lcLoop vs t (fun ρ => evTs Φ ifs ρ) (fun ρ => rel (ev Φ elt ρ)) items [] (wipeE p.2 vs))).map fun q => (Slot.own (.lst q.1), backE p.2 q.2 vs)
    | none => .bad) = _
  rw [hs, R.bind_ok]
  dsimp only
  rw [hi]
  dsimp only
  rw [ho, if_neg Bool.false_ne_true, lcl_ty enc p h xs [] st (by simpa using hl)]
  rfl
theorem lc_ty0 {α : Type} (xs : List α) (enc : α → D) (h : α → D) (hs : evVs Φ src ρ = .ok (ds, ρ1)) (hi : srcf k ds = some (xs.map enc)) (ho : ownAny ρ1 vs = false)
    (st : ∀ a ∈ xs, ∃ ρ2, assignT t (.val (enc a)) (wipeE ρ1 vs) = some ρ2 ∧ rel (ev Φ elt ρ2) = .ok (h a, ρ2) ∧ wipeE ρ2 vs = wipeE ρ1 vs) (hl : xs.length ≤ Line) :
    ev Φ (.lc vs t k src [] elt) ρ = .ok (.own (.lst (xs.map h)), backE ρ1 (wipeE ρ1 vs) vs) := by
  have := lc_ty (Φ := Φ) (t := t) (ifs := []) (elt := elt) xs enc (fun _ => true) h hs hi ho (fun a ha => by
    obtain ⟨ρ2, e1, e2, e3⟩ := st a ha
    exact ⟨ρ2, e1, rfl, fun _ => e2, e3⟩) hl
  rwa [List.filter_eq_self.mpr (fun _ _ => rfl)] at this
/-- .. where the source changes nothing -/
theorem lc_tyS {α : Type} (ds : List D) (xs : List α) (enc : α → D) (p : α → Bool) (h : α → D) (hs : evVs Φ src ρ = .ok (ds, ρ)) (hi : srcf k ds = some (xs.map enc)) (ho : ownAny ρ vs = false) (hb : backE ρ (wipeE ρ vs) vs = ρ)
    (st : ∀ a ∈ xs, ∃ ρ2, assignT t (.val (enc a)) (wipeE ρ vs) = some ρ2 ∧ evTs Φ ifs ρ2 = .ok (p a, ρ2) ∧ (p a = true → rel (ev Φ elt ρ2) = .ok (h a, ρ2)) ∧ wipeE ρ2 vs = wipeE ρ vs) (hl : xs.length ≤ Line) :
    ev Φ (.lc vs t k src ifs elt) ρ = .ok (.own (.lst ((xs.filter p).map h)), ρ) := by
  have := lc_ty (Φ := Φ) (t := t) (ifs := ifs) (elt := elt) xs enc p h hs hi ho st hl
  rwa [hb] at this
theorem lc_ty0S {α : Type} (ds : List D) (xs : List α) (enc : α → D) (h : α → D) (hs : evVs Φ src ρ = .ok (ds, ρ)) (hi : srcf k ds = some (xs.map enc)) (ho : ownAny ρ vs = false) (hb : backE ρ (wipeE ρ vs) vs = ρ)
    (st : ∀ a ∈ xs, ∃ ρ2, assignT t (.val (enc a)) (wipeE ρ vs) = some ρ2 ∧ rel (ev Φ elt ρ2) = .ok (h a, ρ2) ∧ wipeE ρ2 vs = wipeE ρ vs) (hl : xs.length ≤ Line) :
    ev Φ (.lc vs t k src [] elt) ρ = .ok (.own (.lst (xs.map h)), ρ) := by
  have := lc_ty0 (Φ := Φ) (t := t) (elt := elt) xs enc h hs hi ho st hl
  rwa [hb] at this
theorem lcl_ex {α β : Type} {f : Sts → R Sts (Bool × Sts)} {g : Sts → R Sts (D × Sts)} (enc : α → D) (out : β → D) (I : Sts → Prop) (Q : β → Prop) : ∀ (xs : List α) (acc : List D) (ρ : Sts),
    (∀ a ∈ xs, ∀ ρ, I ρ → ∃ ρ1 b ρ3, assignT t (.val (enc a)) ρ = some ρ1 ∧ f ρ1 = .ok (true, ρ1) ∧ g ρ1 = .ok (out b, ρ3) ∧ Q b ∧ I (wipeE ρ3 vs)) → I ρ → acc.length + xs.length ≤ Line →
      ∃ (bs : List β) (ρ' : Sts), lcLoop vs t f g (xs.map enc) acc ρ = .ok (acc ++ bs.map out, ρ') ∧ I ρ' ∧ (∀ b ∈ bs, Q b) ∧ bs.length = xs.length
  | [], acc, ρ, _, hI, _ => ⟨[], ρ, by simp, hI, by simp, rfl⟩
  | x :: xs, acc, ρ, hs, hI, hl => by
    obtain ⟨ρ1, d, ρ3, e1, e2, e5, e6, e7⟩ := hs x List.mem_cons_self ρ hI
    have rest := fun y hy => hs y (List.mem_cons_of_mem _ hy)
    rw [List.length_cons] at hl
    obtain ⟨bs, ρ', z1, z2, z3, z4⟩ := lcl_ex enc out I Q xs (acc ++ [out d]) _ rest e7 (by simp; omega)
    refine ⟨d :: bs, ρ', ?_, z2, ?_, by simp [z4]⟩
    · rw [List.map_cons, lc_step, e1, R.ofO_some, R.bind_ok, e2, R.bind_ok, if_pos rfl, e5, R.bind_ok, if_pos (by omega), z1]; simp
    · intro y hy
      rcases List.mem_cons.mp hy with rfl | hy
      · exact e6
      · exact z3 y hy
/-- [elt for x in src] where the answers are not told but what they keep, and a state goes on -/
theorem lc_ex {α β : Type} (xs : List α) (enc : α → D) (out : β → D) (I : Sts → Prop) (Q : β → Prop) (hs : evVs Φ src ρ = .ok (ds, ρ1)) (hi : srcf k ds = some (xs.map enc)) (ho : ownAny ρ1 vs = false)
    (st : ∀ a ∈ xs, ∀ ρ, I ρ → ∃ ρ1 b ρ3, assignT t (.val (enc a)) ρ = some ρ1 ∧ rel (ev Φ elt ρ1) = .ok (out b, ρ3) ∧ Q b ∧ I (wipeE ρ3 vs)) (h0 : I (wipeE ρ1 vs)) (hl : xs.length ≤ Line) :
    ∃ (bs : List β) (ρ' : Sts), ev Φ (.lc vs t k src [] elt) ρ = .ok (.own (.lst (bs.map out)), backE ρ1 ρ' vs) ∧ I ρ' ∧ (∀ b ∈ bs, Q b) ∧ bs.length = xs.length := by
  obtain ⟨bs, ρ', e1, e2, e3, e4⟩ := lcl_ex (vs := vs) (t := t) (f := fun ρ => evTs Φ [] ρ) (g := fun ρ => rel (ev Φ elt ρ)) enc out I Q xs [] _ (fun a ha ρ hI => by
    obtain ⟨ρ1, b, ρ3, q1, q2, q3⟩ := st a ha ρ hI
    exact ⟨ρ1, b, ρ3, q1, rfl, q2, q3⟩) h0 (by simpa using hl)
  refine ⟨bs, ρ', ?_, e2, e3, e4⟩
  show ((evVs Φ src ρ).bind fun p => match srcf k p.1 with
    | some items => if ownAny p.2 vs then .bad else
        (noExc (lcLoop vs t (fun ρ => evTs Φ [] ρ) (fun ρ => rel (ev Φ elt ρ)) items [] (wipeE p.2 vs))).map fun q => (Slot.own (.lst q.1), backE p.2 q.2 vs)
    | none => .bad) = _
  rw [hs, R.bind_ok]
  dsimp only
  rw [hi]
  dsimp only
  rw [ho, if_neg Bool.false_ne_true, e1]
  rfl
theorem forl_ty {α : Type} {step : D → Sts → R Sts Out} (enc : α → D) (I : List α → Sts → Prop) : ∀ (post pre : List α) (ρ : Sts),
    (∀ (pre' : List α) (a : α) (post' : List α) (ρ : Sts), pre ++ post = pre' ++ a :: post' → I pre' ρ → ∃ ρ', (step (enc a) ρ = .ok (.nx ρ') ∨ step (enc a) ρ = .ok (.ct ρ')) ∧ I (pre' ++ [a]) ρ') → I pre ρ → ∃ ρ', forR step (post.map enc) ρ = .ok (.nx ρ') ∧ I (pre ++ post) ρ'
  | [], pre, ρ, _, hI => ⟨ρ, rfl, by simpa using hI⟩
  | x :: xs, pre, ρ, hs, hI => by
    obtain ⟨ρ1, e1, e2⟩ := hs pre x xs ρ rfl hI
    obtain ⟨ρ', z1, z2⟩ := forl_ty enc I xs (pre ++ [x]) ρ1 (fun p a q ρ h hI => hs p a q ρ (by simpa using h) hI) e2
    refine ⟨ρ', ?_, by simpa using z2⟩
    rcases e1 with e1 | e1 <;> (rw [List.map_cons]; unfold forR; rw [e1]; exact z1)
/-- for x in src over data of a type, I by what was gone through -/
theorem for_ty {α : Type} (xs : List α) (enc : α → D) (I : List α → Sts → Prop) (hs : evVs Φ src ρ = .ok (ds, ρ1)) (hi : srcf k ds = some (xs.map enc))
    (st : ∀ (pre : List α) (a : α) (post : List α) (ρ : Sts), xs = pre ++ a :: post → I pre ρ → ∃ ρ2 ρ', assignT t (.val (enc a)) ρ = some ρ2 ∧ (evSs Φ b ρ2 = .ok (.nx ρ') ∨ evSs Φ b ρ2 = .ok (.ct ρ')) ∧ I (pre ++ [a]) ρ') (h0 : I [] ρ1) : ∃ ρ', evS Φ (.for t k src b) ρ = .ok (.nx ρ') ∧ I xs ρ' := by
  obtain ⟨ρ', e1, e2⟩ := forl_ty (step := fun x ρ => (R.ofO (assignT t (.val x) ρ)).bind fun ρ1 => evSs Φ b ρ1) enc I xs [] ρ1 (fun p a q ρ h hI => by
    obtain ⟨ρ2, ρ', q1, q2, q3⟩ := st p a q ρ (by simpa using h) hI
    refine ⟨ρ', ?_, q3⟩
    rw [q1, R.ofO_some, R.bind_ok]
    exact q2) h0
  refine ⟨ρ', ?_, by simpa using e2⟩
  show ((evVs Φ src ρ).bind fun p => match srcf k p.1 with
    | some items => forR (fun x ρ => (R.ofO (assignT t (.val x) ρ)).bind fun ρ1 => evSs Φ b ρ1) items p.2
    | none => .bad) = _
  rw [hs, R.bind_ok]
  dsimp only
  rw [hi]
  exact e1
/-- .. as a fold -/
theorem for_fold {α β : Type} (xs : List α) (enc : α → D) (f : β → α → β) (I : Nat → β → Sts → Prop) (b0 : β) (hs : evVs Φ src ρ = .ok (ds, ρ1)) (hi : srcf k ds = some (xs.map enc))
    (st : ∀ (j : Nat) (y : β) (a : α) (ρ : Sts), xs[j]? = some a → I j y ρ → ∃ ρ2 ρ', assignT t (.val (enc a)) ρ = some ρ2 ∧ (evSs Φ b ρ2 = .ok (.nx ρ') ∨ evSs Φ b ρ2 = .ok (.ct ρ')) ∧ I (j + 1) (f y a) ρ') (h0 : I 0 b0 ρ1) : ∃ ρ', evS Φ (.for t k src b) ρ = .ok (.nx ρ') ∧ I xs.length (xs.foldl f b0) ρ' := by
  obtain ⟨ρ', e1, e2⟩ := for_ty (Φ := Φ) (t := t) (b := b) xs enc (fun pre ρ => I pre.length (pre.foldl f b0) ρ) hs hi (fun pre a post ρ h hI => by
    have ha : xs[pre.length]? = some a := by rw [h]; simp
    obtain ⟨ρ2, ρ', q1, q2, q3⟩ := st pre.length _ a ρ ha hI
    refine ⟨ρ2, ρ', q1, q2, ?_⟩
    rw [List.length_append, List.foldl_append]
    exact q3) h0
  exact ⟨ρ', e1, e2⟩
theorem ev_of_eq {e e' : E} {r : R Sts (Slot × Sts)} (h : ev Φ e' ρ = r) (q : e = e') : ev Φ e ρ = r := by rw [q]; exact h
end
/-! ## what can be shown -/
structure NiceD (d : D) (h w : Nat) : Prop where
  pure : d.pure = true
  nice : nice d.py = true
  dep : d.py.depth ≤ h
  wid : wid d.py ≤ w
theorem NiceD.mono {d : D} {h w h' w' : Nat} (n : NiceD d h w) (a : h ≤ h') (b : w ≤ w') : NiceD d h' w' := ⟨n.pure, n.nice, Nat.le_trans n.dep a, Nat.le_trans n.wid b⟩
theorem NiceD.ok {d : D} {h w : Nat} (n : NiceD d h w) (a : h ≤ 64) (b : w ≤ 16777216) : reprOk d = true := reprOk_by n.pure n.nice (Nat.le_trans n.dep a) (Nat.le_trans n.wid b)
theorem niceD_non : NiceD .non 0 5 := ⟨rfl, rfl, Nat.zero_le _, by show 4 ≤ 5; omega⟩
theorem niceD_bl {b : Bool} : NiceD (.bl b) 0 5 := ⟨rfl, rfl, Nat.zero_le _, Nat.le_refl 5⟩
theorem niceD_int {i : Int} (h1 : -1000000000000000000 ≤ i) (h2 : i ≤ 1000000000000000000) : NiceD (.int i) 0 21 := ⟨rfl, by
  show decide (i.natAbs < 10 ^ 20) = true
  exact decide_eq_true (Nat.lt_of_le_of_lt (show i.natAbs ≤ 1000000000000000000 by omega) (by decide)), Nat.zero_le _, Nat.le_refl 21⟩
theorem niceD_str {s : Str} (h : PyData.strOk s = true) : NiceD (.str s) 0 (10 * s.length + 2) := ⟨rfl, h, Nat.zero_le _, Nat.le_refl _⟩
theorem niceD_seq {xs : List D} {h w : Nat} (a : ∀ d ∈ xs, NiceD d h w) : D.pures xs = true ∧ nices (D.pys xs) = true ∧ PyData.depthAll (D.pys xs) ≤ h ∧ wids (D.pys xs) ≤ (w + 2) * xs.length := by
  induction xs with
  | nil => exact ⟨rfl, rfl, Nat.zero_le _, Nat.zero_le _⟩
  | cons x xs ih =>
    have n := a x List.mem_cons_self
    obtain ⟨i1, i2, i3, i4⟩ := ih fun d hd => a d (List.mem_cons_of_mem _ hd)
    refine ⟨?_, ?_, ?_, ?_⟩
    · show (x.pure && D.pures xs) = true
      rw [n.pure, i1]; rfl
    · show (DL.nice x.py && nices (D.pys xs)) = true
      rw [n.nice, i2]; rfl
    · show max x.py.depth (PyData.depthAll (D.pys xs)) ≤ h
      have := n.dep; omega
    · show DL.wid x.py + 2 + wids (D.pys xs) ≤ _
      have := n.wid
      rw [List.length_cons, Nat.mul_succ]; omega
theorem niceD_lst {xs : List D} {h w n : Nat} (a : ∀ d ∈ xs, NiceD d h w) (hn : xs.length ≤ n) : NiceD (.lst xs) (h + 1) ((w + 2) * n + 3) := by
  obtain ⟨i1, i2, i3, i4⟩ := niceD_seq a
  refine ⟨i1, i2, ?_, ?_⟩
  · show PyData.depthAll (D.pys xs) + 1 ≤ h + 1; omega
  · show wids (D.pys xs) + 3 ≤ _
    have := Nat.mul_le_mul_left (w + 2) hn; omega
theorem niceD_tup {xs : List D} {h w n : Nat} (a : ∀ d ∈ xs, NiceD d h w) (hn : xs.length ≤ n) : NiceD (.tup xs) (h + 1) ((w + 2) * n + 3) := by
  obtain ⟨i1, i2, i3, i4⟩ := niceD_seq a
  refine ⟨i1, i2, ?_, ?_⟩
  · show PyData.depthAll (D.pys xs) + 1 ≤ h + 1; omega
  · show wids (D.pys xs) + 3 ≤ _
    have := Nat.mul_le_mul_left (w + 2) hn; omega
/-! ## more rules -/
theorem mkf_lst' {ds : List D} (h : ds.length ≤ 16777216) : mkf .lst ds = some (.own (.lst ds)) := if_pos h
theorem mkf_tup' {ds : List D} (h : ds.length ≤ 16777216) : mkf .tup ds = some (.val (.tup ds)) := if_pos h
@[simp] theorem mkl0 : mkf .lst [] = some (.own (.lst [])) := mkf_lst (by decide)
@[simp] theorem mkl1 {a : D} : mkf .lst [a] = some (.own (.lst [a])) := mkf_lst (by simp [Line])
@[simp] theorem mkl2 {a b : D} : mkf .lst [a, b] = some (.own (.lst [a, b])) := mkf_lst (by simp [Line])
@[simp] theorem mkl3 {a b c : D} : mkf .lst [a, b, c] = some (.own (.lst [a, b, c])) := mkf_lst (by simp [Line])
@[simp] theorem mkl4 {a b c d : D} : mkf .lst [a, b, c, d] = some (.own (.lst [a, b, c, d])) := mkf_lst (by simp [Line])
@[simp] theorem mkl5 {a b c d e : D} : mkf .lst [a, b, c, d, e] = some (.own (.lst [a, b, c, d, e])) := mkf_lst (by simp [Line])
@[simp] theorem mkl6 {a b c d e f : D} : mkf .lst [a, b, c, d, e, f] = some (.own (.lst [a, b, c, d, e, f])) := mkf_lst (by simp [Line])
@[simp] theorem mkl7 {a b c d e f g : D} : mkf .lst [a, b, c, d, e, f, g] = some (.own (.lst [a, b, c, d, e, f, g])) := mkf_lst (by simp [Line])
@[simp] theorem mkl8 {a b c d e f g h : D} : mkf .lst [a, b, c, d, e, f, g, h] = some (.own (.lst [a, b, c, d, e, f, g, h])) := mkf_lst (by simp [Line])
@[simp] theorem mkl9 {a b c d e f g h i : D} : mkf .lst [a, b, c, d, e, f, g, h, i] = some (.own (.lst [a, b, c, d, e, f, g, h, i])) := mkf_lst (by simp [Line])
@[simp] theorem mkl10 {a b c d e f g h i j : D} : mkf .lst [a, b, c, d, e, f, g, h, i, j] = some (.own (.lst [a, b, c, d, e, f, g, h, i, j])) := mkf_lst (by simp [Line])
@[simp] theorem mkt0 : mkf .tup [] = some (.val (.tup [])) := mkf_tup (by decide)
@[simp] theorem mkt1 {a : D} : mkf .tup [a] = some (.val (.tup [a])) := mkf_tup (by simp [Line])
@[simp] theorem mkt2 {a b : D} : mkf .tup [a, b] = some (.val (.tup [a, b])) := mkf_tup (by simp [Line])
@[simp] theorem mkt3 {a b c : D} : mkf .tup [a, b, c] = some (.val (.tup [a, b, c])) := mkf_tup (by simp [Line])
@[simp] theorem mkt4 {a b c d : D} : mkf .tup [a, b, c, d] = some (.val (.tup [a, b, c, d])) := mkf_tup (by simp [Line])
@[simp] theorem mkt5 {a b c d e : D} : mkf .tup [a, b, c, d, e] = some (.val (.tup [a, b, c, d, e])) := mkf_tup (by simp [Line])
@[simp] theorem mkt6 {a b c d e f : D} : mkf .tup [a, b, c, d, e, f] = some (.val (.tup [a, b, c, d, e, f])) := mkf_tup (by simp [Line])
theorem bin_mul {i j : Int} (h : mulOk i j = true) : binf .Mult (.int i) (.int j) = some (.val (.int (i * j))) := if_pos h
theorem bin_div {i j : Int} (h : divOk j = true) : binf .FloorDiv (.int i) (.int j) = some (.val (.int (i.fdiv j))) := if_pos h
theorem bin_mod {i j : Int} (h : j ≠ 0) : binf .Mod (.int i) (.int j) = some (.val (.int (i.fmod j))) := if_pos h
theorem bin_apT {xs ys : List D} (h : xs.length + ys.length ≤ 16777216) : binf .Add (.tup xs) (.tup ys) = some (.val (.tup (xs ++ ys))) := if_pos h
theorem bin_apL {xs ys : List D} (h : xs.length + ys.length ≤ 16777216) : binf .Add (.lst xs) (.lst ys) = some (.own (.lst (xs ++ ys))) := if_pos h
theorem smallI_of' {i : Int} (h : i.natAbs < 18446744073709551616) : smallI i = true := by
  unfold smallI
  simp only [Bool.and_eq_true, decide_eq_true_eq]
  constructor
  · show -(18446744073709551616 : Int) < i; omega
  · show i < (18446744073709551616 : Int); omega
theorem divOk_of' {m : Int} (h : m ≠ 0) (h2 : m.natAbs < 2 ^ 400) : divOk m = true := by
  unfold divOk midI
  rw [decide_eq_true h, decide_eq_true h2]; rfl
theorem sl_tt {a : D} {i j : Int} : opf (.sl true true) [a, .int i, .int j] = slf (some i) (some j) a := Eq.trans rfl rfl
theorem sl_tf {a : D} {i : Int} : opf (.sl true false) [a, .int i] = slf (some i) none a := Eq.trans rfl rfl
theorem sl_ft {a : D} {j : Int} : opf (.sl false true) [a, .int j] = slf none (some j) a := Eq.trans rfl rfl
theorem sl_ff {a : D} : opf (.sl false false) [a] = slf none none a := Eq.trans rfl rfl
@[simp] theorem opf_minL {x y : Int} : opf .min [.lst [.int x, .int y]] = some (.val (.int (if y < x then y else x))) := Eq.trans rfl rfl
@[simp] theorem opf_maxL {x y : Int} : opf .max [.lst [.int x, .int y]] = some (.val (.int (if y > x then y else x))) := Eq.trans rfl rfl
@[simp] theorem opf_min2 {x y : Int} : opf .min [.int x, .int y] = some (.val (.int (if y < x then y else x))) := Eq.trans rfl rfl
@[simp] theorem opf_max2 {x y : Int} : opf .max [.int x, .int y] = some (.val (.int (if y > x then y else x))) := Eq.trans rfl rfl
@[simp] theorem aug_add {i j : Int} : augf .Add (.int i) (.int j) = some (.int (i + j)) := Eq.trans rfl rfl
@[simp] theorem aug_sub {i j : Int} : augf .Sub (.int i) (.int j) = some (.int (i - j)) := Eq.trans rfl rfl
@[simp] theorem is_non {d : D} : cmpf .Is d .non = some d.isNon := by cases d <;> rfl
@[simp] theorem isnot_non {d : D} : cmpf .IsNot d .non = some (!d.isNon) := by cases d <;> rfl
@[simp] theorem isNon_non : D.non.isNon = true := Eq.trans rfl rfl
@[simp] theorem isNon_int {i : Int} : (D.int i).isNon = false := Eq.trans rfl rfl
@[simp] theorem isNon_bl {i : Bool} : (D.bl i).isNon = false := Eq.trans rfl rfl
@[simp] theorem isNon_str {i : Str} : (D.str i).isNon = false := Eq.trans rfl rfl
@[simp] theorem isNon_tup {i : List D} : (D.tup i).isNon = false := Eq.trans rfl rfl
@[simp] theorem isNon_lst {i : List D} : (D.lst i).isNon = false := Eq.trans rfl rfl
theorem ints_d (l : List Int) : intsD (l.map .int) = some l := by
  induction l with
  | nil => rfl
  | cons a l ih => simp [intsD, ih]
@[simp] theorem opf_sum {l : List Int} : opf .sum [.lst (l.map .int)] = some (.val (.int l.sum)) := by
  show i1 ((intsD (l.map .int)).map List.sum) = _
  rw [ints_d]; rfl
theorem bls_d (l : List Bool) : blsD (l.map .bl) = some l := by
  induction l with
  | nil => rfl
  | cons a l ih => simp [blsD, ih]
@[simp] theorem opf_all {l : List Bool} : opf .all [.lst (l.map .bl)] = some (.val (.bl (l.all id))) := by
  show b1 ((blsD (l.map .bl)).map fun bs => bs.all id) = _
  rw [bls_d]; rfl
@[simp] theorem opf_any {l : List Bool} : opf .any [.lst (l.map .bl)] = some (.val (.bl (l.any id))) := by
  show b1 ((blsD (l.map .bl)).map fun bs => bs.any id) = _
  rw [bls_d]; rfl
theorem zip_tt {xs ys : List D} : srcf .zip [.tup xs, .tup ys] = some (xs.zipWith (fun x y => D.tup [x, y]) ys) := Eq.trans rfl rfl
theorem zip_ll {xs ys : List D} : srcf .zip [.lst xs, .lst ys] = some (xs.zipWith (fun x y => D.tup [x, y]) ys) := Eq.trans rfl rfl
theorem zip_lt {xs ys : List D} : srcf .zip [.lst xs, .tup ys] = some (xs.zipWith (fun x y => D.tup [x, y]) ys) := Eq.trans rfl rfl
theorem zip_tl {xs ys : List D} : srcf .zip [.tup xs, .lst ys] = some (xs.zipWith (fun x y => D.tup [x, y]) ys) := Eq.trans rfl rfl
theorem zip_map {α β : Type} (f : α → D) (g : β → D) (xs : List α) (ys : List β) : (xs.map f).zipWith (fun x y => D.tup [x, y]) (ys.map g) = (xs.zip ys).map fun p => D.tup [f p.1, g p.2] := by
  rw [List.zipWith_map]
  induction xs generalizing ys with
  | nil => rfl
  | cons x xs ih => cases ys with
    | nil => rfl
    | cons y ys => simp [ih]
end DL
namespace W
open PySem DL L2
/- 0 is_integer: slots 0:value -/
def n0 : List S := [(.ret (.and (.op (.isi "int") [(.var 0)]) (.ife (.op (.isi "bool") [(.var 0)]) (.lit (.bl false)) (.lit (.bl true)))))]
def D0 : Def := ⟨[false], 1, false, n0⟩
theorem P0 {k : Nat} : phi tab (k+1) 0 = runD (phi tab k) D0 := rfl
/- 1 check_items: slots 0:items 1:item -/
def EL1_0 : E := (.and (.op (.isi "tuple") [(.var 1)]) (.op (.cmp .Gt) [(.op .len [(.var 1)]), (.lit (.int 0))]))
def LC1_0 : E := .lc [1] (.name 1 false) .it [(.var 0)] [] EL1_0
@[simp] theorem bwLC1_0 {r : R Sts (D × Sts)} {ρ : Sts} : bw LC1_0 ρ r = r.map fun p => (.dat p.1, p.2) := Eq.trans rfl rfl
def BD1_1 : List S := [(.exp (.call 2 [false] [(.var 1)]))]
def FR1_1 : S := .for (.name 1 false) .it [(.var 0)] BD1_1
def n1 : List S := [(.ite (.or (.ife (.op (.isi "tuple") [(.var 0)]) (.lit (.bl false)) (.lit (.bl true))) (.ife (.op .all [LC1_0]) (.lit (.bl false)) (.lit (.bl true)))) [(.raise "" (.lit .non))] []),
  (.ite (.ife (.chain (.lit (.int 1)) .LtE (.op .len [(.var 0)]) .LtE (.lit (.int 120))) (.lit (.bl false)) (.lit (.bl true))) [(.raise "" (.lit .non))] []),
  FR1_1,
  (.ite (.or (.op (.cmp .NotEq) [(.op .ix [(.op .ix [(.var 0), (.op .neg [(.lit (.int 1))])]), (.lit (.int 0))]), (.lit (.str "fine"))]) (.op (.cmp .NotEq) [(.op .ix [(.op .ix [(.var 0), (.op .neg [(.lit (.int 1))])]), (.lit (.int 1))]), (.op .neg [(.lit (.int 10000))])])) [(.raise "" (.lit .non))] [])]
def D1 : Def := ⟨[false], 2, false, n1⟩
theorem P1 {k : Nat} : phi tab (k+1) 1 = runD (phi tab k) D1 := rfl
/- 2 check_item: slots 0:item 1:widths 2:width -/
def EL2_0 : E := (.and (.call 0 [false] [(.var 2)]) (.chain (.lit (.int 0)) .LtE (.var 2) .LtE (.lit (.int 100000))))
def LC2_0 : E := .lc [2] (.name 2 false) .it [(.var 1)] [] EL2_0
@[simp] theorem bwLC2_0 {r : R Sts (D × Sts)} {ρ : Sts} : bw LC2_0 ρ r = r.map fun p => (.dat p.1, p.2) := Eq.trans rfl rfl
def n2 : List S := [(.ite (.or (.ife (.op (.isi "str") [(.op .ix [(.var 0), (.lit (.int 0))])]) (.lit (.bl false)) (.lit (.bl true))) (.or (.op (.inK [("box", 2), ("spring", 4), ("fine", 4)] true) [(.op .ix [(.var 0), (.lit (.int 0))])]) (.op (.cmp .NotEq) [(.op .len [(.var 0)]), (.op (.ixK [("box", 2), ("spring", 4), ("fine", 4)]) [(.op .ix [(.var 0), (.lit (.int 0))])])]))) [(.raise "" (.lit .non))] []),
  (.asg (.name 1 false) (.ife (.op (.cmp .Eq) [(.op .ix [(.var 0), (.lit (.int 0))]), (.lit (.str "fine"))]) (.op (.sl true true) [(.var 0), (.op .ck [(.lit (.int 2))]), (.op .ck [(.lit (.int 3))])]) (.op (.sl true false) [(.var 0), (.op .ck [(.lit (.int 1))])]))),
  (.ite (.ife (.op .all [LC2_0]) (.lit (.bl false)) (.lit (.bl true))) [(.raise "" (.lit .non))] []),
  (.ite (.op (.cmp .Eq) [(.op .ix [(.var 0), (.lit (.int 0))]), (.lit (.str "fine"))]) [(.ite (.or (.ife (.call 0 [false] [(.op .ix [(.var 0), (.lit (.int 1))])]) (.lit (.bl false)) (.lit (.bl true))) (.op (.cmp .Gt) [(.op .abs [(.op .ix [(.var 0), (.lit (.int 1))])]), (.lit (.int 10000))])) [(.raise "" (.lit .non))] []), (.ite (.ife (.op (.isi "bool") [(.op .ix [(.var 0), (.lit (.int 3))])]) (.lit (.bl false)) (.lit (.bl true))) [(.raise "" (.lit .non))] [])] [])]
def D2 : Def := ⟨[false], 3, false, n2⟩
theorem P2 {k : Nat} : phi tab (k+1) 2 = runD (phi tab k) D2 := rfl
/- 3 may_break: slots 0:items 1:at -/
def n3 : List S := [(.ite (.op (.cmp .Eq) [(.op .ix [(.op .ix [(.var 0), (.var 1)]), (.lit (.int 0))]), (.lit (.str "fine"))]) [(.ret (.op (.cmp .Lt) [(.op .ix [(.op .ix [(.var 0), (.var 1)]), (.lit (.int 1))]), (.lit (.int 10000))]))] []),
  (.ret (.and (.op (.cmp .Eq) [(.op .ix [(.op .ix [(.var 0), (.var 1)]), (.lit (.int 0))]), (.lit (.str "spring"))]) (.and (.op (.cmp .Gt) [(.var 1), (.lit (.int 0))]) (.op (.cmp .Eq) [(.op .ix [(.op .ix [(.var 0), (.op (.bin .Sub) [(.var 1), (.lit (.int 1))])]), (.lit (.int 0))]), (.lit (.str "box"))]))))]
def D3 : Def := ⟨[false, false], 2, false, n3⟩
theorem P3 {k : Nat} : phi tab (k+1) 3 = runD (phi tab k) D3 := rfl
/- 4 must_break: slots 0:items 1:at -/
def n4 : List S := [(.ret (.and (.op (.cmp .Eq) [(.op .ix [(.op .ix [(.var 0), (.var 1)]), (.lit (.int 0))]), (.lit (.str "fine"))]) (.op (.cmp .Eq) [(.op .ix [(.op .ix [(.var 0), (.var 1)]), (.lit (.int 1))]), (.op .neg [(.lit (.int 10000))])])))]
def D4 : Def := ⟨[false, false], 2, false, n4⟩
theorem P4 {k : Nat} : phi tab (k+1) 4 = runD (phi tab k) D4 := rfl
/- 5 begin_behind: slots 0:items 1:at 2:begin -/
def TS5_0 : E := (.and (.op (.cmp .GtE) [(.var 1), (.lit (.int 0))]) (.and (.op (.cmp .Lt) [(.var 2), (.op .len [(.var 0)])]) (.and (.op (.cmp .NotEq) [(.op .ix [(.op .ix [(.var 0), (.var 2)]), (.lit (.int 0))]), (.lit (.str "box"))]) (.ife (.call 4 [false, false] [(.var 0), (.var 2)]) (.lit (.bl false)) (.lit (.bl true))))))
def BD5_0 : List S := [(.aug 2 .Add (.lit (.int 1)))]
def WH5_0 : S := .whl TS5_0 BD5_0
def n5 : List S := [(.asg (.name 2 false) (.op (.bin .Add) [(.var 1), (.lit (.int 1))])),
  WH5_0,
  (.reto 2)]
def D5 : Def := ⟨[false, false], 3, false, n5⟩
theorem P5 {k : Nat} : phi tab (k+1) 5 = runD (phi tab k) D5 := rfl
/- 6 line_items: slots 0:items 1:first 2:last 3:found* 4:item -/
def EL6_0 : E := (.var 4)
def IF6_0 : List E := [(.op (.cmp .NotEq) [(.op .ix [(.var 4), (.lit (.int 0))]), (.lit (.str "fine"))])]
def LC6_0 : E := .lc [4] (.name 4 false) .it [(.op (.sl true true) [(.var 0), (.op .ck [(.call 5 [false, false] [(.var 0), (.var 1)])]), (.op .ck [(.var 2)])])] IF6_0 EL6_0
@[simp] theorem bwLC6_0 {r : R Sts (D × Sts)} {ρ : Sts} : bw LC6_0 ρ r = r.map fun p => (.dat p.1, p.2) := Eq.trans rfl rfl
def n6 : List S := [(.asg (.name 3 true) LC6_0),
  (.ite (.and (.op (.cmp .Eq) [(.op .ix [(.op .ix [(.var 0), (.var 2)]), (.lit (.int 0))]), (.lit (.str "fine"))]) (.op (.cmp .Gt) [(.op .ix [(.op .ix [(.var 0), (.var 2)]), (.lit (.int 2))]), (.lit (.int 0))])) [(.exp (.mu .append 3 [(.mk .tup [(.lit (.str "box")), (.op .ix [(.op .ix [(.var 0), (.var 2)]), (.lit (.int 2))])])]))] []),
  (.reto 3)]
def D6 : Def := ⟨[false, false, false], 5, false, n6⟩
theorem P6 {k : Nat} : phi tab (k+1) 6 = runD (phi tab k) D6 := rfl
/- 7 check_break: slots 0:items 1:first 2:last -/
def n7 : List S := [(.ite (.or (.ife (.call 0 [false] [(.var 1)]) (.lit (.bl false)) (.lit (.bl true))) (.and (.op (.cmp .NotEq) [(.var 1), (.op .neg [(.lit (.int 1))])]) (.ife (.and (.chain (.lit (.int 0)) .LtE (.var 1) .Lt (.op .len [(.var 0)])) (.call 3 [false, false] [(.var 0), (.var 1)])) (.lit (.bl false)) (.lit (.bl true))))) [(.raise "" (.lit .non))] []),
  (.ite (.or (.ife (.call 0 [false] [(.var 2)]) (.lit (.bl false)) (.lit (.bl true))) (.or (.ife (.chain (.var 1) .Lt (.var 2) .Lt (.op .len [(.var 0)])) (.lit (.bl false)) (.lit (.bl true))) (.ife (.call 3 [false, false] [(.var 0), (.var 2)]) (.lit (.bl false)) (.lit (.bl true))))) [(.raise "" (.lit .non))] [])]
def D7 : Def := ⟨[false, false, false], 3, false, n7⟩
theorem P7 {k : Nat} : phi tab (k+1) 7 = runD (phi tab k) D7 := rfl
/- 8 sums_of: slots 0:row 1:width 2:springs 3:item -/
def EL8_0 : E := (.op .ix [(.var 3), (.lit (.int 1))])
def LC8_0 : E := .lc [3] (.name 3 false) .it [(.var 0)] [] EL8_0
@[simp] theorem bwLC8_0 {r : R Sts (D × Sts)} {ρ : Sts} : bw LC8_0 ρ r = r.map fun p => (.dat p.1, p.2) := Eq.trans rfl rfl
def EL8_1 : E := (.var 3)
def IF8_1 : List E := [(.op (.cmp .Eq) [(.op .ix [(.var 3), (.lit (.int 0))]), (.lit (.str "spring"))])]
def LC8_1 : E := .lc [3] (.name 3 false) .it [(.var 0)] IF8_1 EL8_1
@[simp] theorem bwLC8_1 {r : R Sts (D × Sts)} {ρ : Sts} : bw LC8_1 ρ r = r.map fun p => (.dat p.1, p.2) := Eq.trans rfl rfl
def EL8_2 : E := (.op .ix [(.var 3), (.lit (.int 2))])
def LC8_2 : E := .lc [3] (.name 3 false) .it [(.var 2)] [] EL8_2
@[simp] theorem bwLC8_2 {r : R Sts (D × Sts)} {ρ : Sts} : bw LC8_2 ρ r = r.map fun p => (.dat p.1, p.2) := Eq.trans rfl rfl
def EL8_3 : E := (.op .ix [(.var 3), (.lit (.int 3))])
def LC8_3 : E := .lc [3] (.name 3 false) .it [(.var 2)] [] EL8_3
@[simp] theorem bwLC8_3 {r : R Sts (D × Sts)} {ρ : Sts} : bw LC8_3 ρ r = r.map fun p => (.dat p.1, p.2) := Eq.trans rfl rfl
def n8 : List S := [(.asg (.name 1 false) (.op .sum [LC8_0])),
  (.asg (.name 2 false) LC8_1),
  (.ret (.mk .tup [(.var 1), (.op .sum [LC8_2]), (.op .sum [LC8_3])]))]
def D8 : Def := ⟨[false], 4, false, n8⟩
theorem P8 {k : Nat} : phi tab (k+1) 8 = runD (phi tab k) D8 := rfl
/- 9 check_width: slots 0:width -/
def n9 : List S := [(.ite (.or (.ife (.call 0 [false] [(.var 0)]) (.lit (.bl false)) (.lit (.bl true))) (.ife (.chain (.lit (.int 1)) .LtE (.var 0) .LtE (.lit (.int 100000))) (.lit (.bl false)) (.lit (.bl true)))) [(.raise "" (.lit .non))] [])]
def D9 : Def := ⟨[false], 1, false, n9⟩
theorem P9 {k : Nat} : phi tab (k+1) 9 = runD (phi tab k) D9 := rfl
/- 10 badness: slots 0:gap 1:give -/
def n10 : List S := [(.ite (.op (.cmp .Eq) [(.var 0), (.lit (.int 0))]) [(.ret (.lit (.int 0)))] []),
  (.ite (.op (.cmp .Eq) [(.var 1), (.lit (.int 0))]) [(.ret (.lit (.int 10000)))] []),
  (.ret (.op .min [(.lit (.int 10000)), (.op (.bin .FloorDiv) [(.op (.bin .Mult) [(.op (.bin .Mult) [(.op (.bin .Mult) [(.lit (.int 100)), (.var 0)]), (.var 0)]), (.var 0)]), (.op (.bin .Mult) [(.op (.bin .Mult) [(.var 1), (.var 1)]), (.var 1)])])]))]
def D10 : Def := ⟨[false, false], 2, false, n10⟩
theorem P10 {k : Nat} : phi tab (k+1) 10 = runD (phi tab k) D10 := rfl
/- 11 bad_of: slots 0:row 1:width -/
def n11 : List S := [(.ret (.call 12 [false, false] [(.call 8 [false] [(.var 0)]), (.var 1)]))]
def D11 : Def := ⟨[false, false], 2, false, n11⟩
theorem P11 {k : Nat} : phi tab (k+1) 11 = runD (phi tab k) D11 := rfl
/- 12 bad_of_sums: slots 0:sums 1:width 2:own 3:stretch 4:shrink -/
def n12 : List S := [(.asg (.tup [(.name 2 false), (.name 3 false), (.name 4 false)]) (.var 0)),
  (.ite (.op (.cmp .Gt) [(.var 2), (.op (.bin .Add) [(.var 1), (.var 4)])]) [(.ret (.lit .non))] []),
  (.ret (.ife (.op (.cmp .LtE) [(.var 2), (.var 1)]) (.call 10 [false, false] [(.op (.bin .Sub) [(.var 1), (.var 2)]), (.var 3)]) (.call 10 [false, false] [(.op (.bin .Sub) [(.var 2), (.var 1)]), (.var 4)])))]
def D12 : Def := ⟨[false, false], 5, false, n12⟩
theorem P12 {k : Nat} : phi tab (k+1) 12 = runD (phi tab k) D12 := rfl
/- 13 line_badness: slots 0:items 1:first 2:last 3:width -/
def n13 : List S := [(.exp (.call 1 [false] [(.var 0)])),
  (.exp (.call 7 [false, false, false] [(.var 0), (.var 1), (.var 2)])),
  (.exp (.call 9 [false] [(.var 3)])),
  (.ret (.call 11 [false, false] [(.call 6 [false, false, false] [(.var 0), (.var 1), (.var 2)]), (.var 3)]))]
def D13 : Def := ⟨[false, false, false, false], 4, false, n13⟩
theorem P13 {k : Nat} : phi tab (k+1) 13 = runD (phi tab k) D13 := rfl
/- 14 check_gap: slots 0:gap 1:give -/
def n14 : List S := [(.ite (.or (.ife (.call 0 [false] [(.var 0)]) (.lit (.bl false)) (.lit (.bl true))) (.ife (.chain (.lit (.int 0)) .LtE (.var 0) .LtE (.op (.bin .Mult) [(.lit (.int 120)), (.lit (.int 100000))])) (.lit (.bl false)) (.lit (.bl true)))) [(.raise "" (.lit .non))] []),
  (.ite (.or (.ife (.call 0 [false] [(.var 1)]) (.lit (.bl false)) (.lit (.bl true))) (.ife (.chain (.lit (.int 0)) .LtE (.var 1) .LtE (.op (.bin .Mult) [(.lit (.int 120)), (.lit (.int 100000))])) (.lit (.bl false)) (.lit (.bl true)))) [(.raise "" (.lit .non))] [])]
def D14 : Def := ⟨[false, false], 2, false, n14⟩
theorem P14 {k : Nat} : phi tab (k+1) 14 = runD (phi tab k) D14 := rfl
/- 15 badness_of: slots 0:gap 1:give -/
def n15 : List S := [(.exp (.call 14 [false, false] [(.var 0), (.var 1)])),
  (.ret (.call 10 [false, false] [(.var 0), (.var 1)]))]
def D15 : Def := ⟨[false, false], 2, false, n15⟩
theorem P15 {k : Nat} : phi tab (k+1) 15 = runD (phi tab k) D15 := rfl
/- 16 shares: slots 0:gap 1:gives 2:total 3:found* 4:done 5:given 6:give 7:upto -/
def BD16_0 : List S := [(.aug 5 .Add (.var 6)), (.asg (.name 7 false) (.ife (.op (.cmp .Gt) [(.var 2), (.lit (.int 0))]) (.op (.bin .FloorDiv) [(.op (.bin .Mult) [(.var 0), (.var 5)]), (.var 2)]) (.lit (.int 0)))), (.exp (.mu .append 3 [(.op (.bin .Sub) [(.var 7), (.var 4)])])), (.asg (.name 4 false) (.var 7))]
def FR16_0 : S := .for (.name 6 false) .it [(.var 1)] BD16_0
def n16 : List S := [(.asg (.name 2 false) (.op .sum [(.var 1)])),
  (.asg (.name 3 true) (.mk .lst [])),
  (.asg (.name 4 false) (.lit (.int 0))),
  (.asg (.name 5 false) (.lit (.int 0))),
  FR16_0,
  (.reto 3)]
def D16 : Def := ⟨[false, false], 8, false, n16⟩
theorem P16 {k : Nat} : phi tab (k+1) 16 = runD (phi tab k) D16 := rfl
/- 17 set_row: slots 0:row 1:width 2:gap 3:gives 4:changes 5:own 6:stretch 7:shrink 8:item 9:change -/
def EL17_0 : E := (.ife (.op (.cmp .Eq) [(.op .ix [(.var 8), (.lit (.int 0))]), (.lit (.str "box"))]) (.lit (.int 0)) (.ife (.op (.cmp .GtE) [(.var 2), (.lit (.int 0))]) (.op .ix [(.var 8), (.lit (.int 2))]) (.op .ix [(.var 8), (.lit (.int 3))])))
def LC17_0 : E := .lc [8] (.name 8 false) .it [(.var 0)] [] EL17_0
@[simp] theorem bwLC17_0 {r : R Sts (D × Sts)} {ρ : Sts} : bw LC17_0 ρ r = r.map fun p => (.dat p.1, p.2) := Eq.trans rfl rfl
def EL17_1 : E := (.op (.bin .Add) [(.op .ix [(.var 8), (.lit (.int 1))]), (.ife (.op (.cmp .GtE) [(.var 2), (.lit (.int 0))]) (.var 9) (.op .neg [(.var 9)]))])
def LC17_1 : E := .lc [8, 9] (.tup [(.name 8 false), (.name 9 false)]) .zip [(.var 0), (.var 4)] [] EL17_1
@[simp] theorem bwLC17_1 {r : R Sts (D × Sts)} {ρ : Sts} : bw LC17_1 ρ r = r.map fun p => (.dat p.1, p.2) := Eq.trans rfl rfl
def n17 : List S := [(.asg (.tup [(.name 5 false), (.name 6 false), (.name 7 false)]) (.call 8 [false] [(.var 0)])),
  (.ite (.op (.cmp .Gt) [(.var 5), (.op (.bin .Add) [(.var 1), (.var 7)])]) [(.ret (.lit .non))] []),
  (.asg (.name 2 false) (.op (.bin .Sub) [(.var 1), (.var 5)])),
  (.asg (.name 3 false) LC17_0),
  (.asg (.name 4 false) (.call 16 [false, false] [(.op .abs [(.var 2)]), (.var 3)])),
  (.ret LC17_1)]
def D17 : Def := ⟨[false, false], 10, false, n17⟩
theorem P17 {k : Nat} : phi tab (k+1) 17 = runD (phi tab k) D17 := rfl
/- 18 set_line: slots 0:items 1:first 2:last 3:width -/
def n18 : List S := [(.exp (.call 1 [false] [(.var 0)])),
  (.exp (.call 7 [false, false, false] [(.var 0), (.var 1), (.var 2)])),
  (.exp (.call 9 [false] [(.var 3)])),
  (.ret (.call 19 [false, false] [(.call 6 [false, false, false] [(.var 0), (.var 1), (.var 2)]), (.var 3)]))]
def D18 : Def := ⟨[false, false, false, false], 4, false, n18⟩
theorem P18 {k : Nat} : phi tab (k+1) 18 = runD (phi tab k) D18 := rfl
/- 19 placed: slots 0:row 1:width 2:widths 3:found* 4:place 5:own -/
def BD19_0 : List S := [(.exp (.mu .append 3 [(.mk .tup [(.var 4), (.var 5)])])), (.aug 4 .Add (.var 5))]
def FR19_0 : S := .for (.name 5 false) .it [(.var 2)] BD19_0
def n19 : List S := [(.asg (.name 2 false) (.call 17 [false, false] [(.var 0), (.var 1)])),
  (.ite (.op (.cmp .Is) [(.var 2), (.lit .non)]) [(.ret (.lit .non))] []),
  (.asg (.name 3 true) (.mk .lst [])),
  (.asg (.name 4 false) (.lit (.int 0))),
  FR19_0,
  (.ret (.op .tuple [(.var 3)]))]
def D19 : Def := ⟨[false, false], 6, false, n19⟩
theorem P19 {k : Nat} : phi tab (k+1) 19 = runD (phi tab k) D19 := rfl
/- 20 accept_set: slots 0:items 1:first 2:last 3:width 4:rows 5:row 6:own 7:place 8:item 9:stretch 10:shrink 11:part -/
def EL20_0 : E := (.call 0 [false] [(.var 11)])
def LC20_0 : E := .lc [11] (.name 11 false) .it [(.var 6)] [] EL20_0
@[simp] theorem bwLC20_0 {r : R Sts (D × Sts)} {ρ : Sts} : bw LC20_0 ρ r = r.map fun p => (.dat p.1, p.2) := Eq.trans rfl rfl
def BD20_1 : List S := [(.ite (.or (.ife (.op (.isi "tuple") [(.var 6)]) (.lit (.bl false)) (.lit (.bl true))) (.or (.op (.cmp .NotEq) [(.op .len [(.var 6)]), (.lit (.int 2))]) (.ife (.op .all [LC20_0]) (.lit (.bl false)) (.lit (.bl true))))) [(.raise "" (.lit .non))] [])]
def FR20_1 : S := .for (.name 6 false) .it [(.var 4)] BD20_1
def BD20_2 : List S := [(.ite (.op (.cmp .NotEq) [(.op .ix [(.var 6), (.lit (.int 0))]), (.var 7)]) [(.raise "" (.lit .non))] []), (.aug 7 .Add (.op .ix [(.var 6), (.lit (.int 1))])), (.ite (.ife (.call 21 [false, false] [(.var 8), (.op .ix [(.var 6), (.lit (.int 1))])]) (.lit (.bl false)) (.lit (.bl true))) [(.raise "" (.lit .non))] [])]
def FR20_2 : S := .for (.tup [(.name 8 false), (.name 6 false)]) .zip [(.var 5), (.var 4)] BD20_2
def n20 : List S := [(.exp (.call 1 [false] [(.var 0)])),
  (.exp (.call 7 [false, false, false] [(.var 0), (.var 1), (.var 2)])),
  (.exp (.call 9 [false] [(.var 3)])),
  (.asg (.name 5 false) (.call 6 [false, false, false] [(.var 0), (.var 1), (.var 2)])),
  (.ite (.or (.ife (.op (.isi "tuple") [(.var 4)]) (.lit (.bl false)) (.lit (.bl true))) (.op (.cmp .NotEq) [(.op .len [(.var 4)]), (.op .len [(.var 5)])])) [(.raise "" (.lit .non))] []),
  FR20_1,
  (.asg (.name 7 false) (.lit (.int 0))),
  FR20_2,
  (.asg (.tup [(.name 6 false), (.name 9 false), (.name 10 false)]) (.call 8 [false] [(.var 5)])),
  (.ite (.and (.op (.cmp .NotEq) [(.var 7), (.var 3)]) (.or (.op (.cmp .Gt) [(.var 6), (.var 3)]) (.or (.op (.cmp .Gt) [(.var 9), (.lit (.int 0))]) (.op (.cmp .NotEq) [(.var 7), (.var 6)])))) [(.raise "" (.lit .non))] [])]
def D20 : Def := ⟨[false, false, false, false, false], 12, false, n20⟩
theorem P20 {k : Nat} : phi tab (k+1) 20 = runD (phi tab k) D20 := rfl
/- 21 lets: slots 0:item 1:width -/
def n21 : List S := [(.ite (.op (.cmp .Eq) [(.op .ix [(.var 0), (.lit (.int 0))]), (.lit (.str "box"))]) [(.ret (.op (.cmp .Eq) [(.var 1), (.op .ix [(.var 0), (.lit (.int 1))])]))] []),
  (.ret (.and (.op (.cmp .GtE) [(.var 1), (.op (.bin .Sub) [(.op .ix [(.var 0), (.lit (.int 1))]), (.op .ix [(.var 0), (.lit (.int 3))])])]) (.or (.op (.cmp .LtE) [(.var 1), (.op .ix [(.var 0), (.lit (.int 1))])]) (.op (.cmp .Gt) [(.op .ix [(.var 0), (.lit (.int 2))]), (.lit (.int 0))]))))]
def D21 : Def := ⟨[false, false], 2, false, n21⟩
theorem P21 {k : Nat} : phi tab (k+1) 21 = runD (phi tab k) D21 := rfl
/- 22 is_tight: slots 0:items 1:first 2:last 3:width 4:own 5:stretch 6:shrink -/
def n22 : List S := [(.exp (.call 1 [false] [(.var 0)])),
  (.exp (.call 7 [false, false, false] [(.var 0), (.var 1), (.var 2)])),
  (.exp (.call 9 [false] [(.var 3)])),
  (.asg (.tup [(.name 4 false), (.name 5 false), (.name 6 false)]) (.call 8 [false] [(.call 6 [false, false, false] [(.var 0), (.var 1), (.var 2)])])),
  (.ite (.op (.cmp .Gt) [(.var 4), (.op (.bin .Add) [(.var 3), (.var 6)])]) [(.ret (.lit (.str "wide")))] []),
  (.ret (.ife (.op (.cmp .Lt) [(.var 4), (.var 3)]) (.lit (.str "loose")) (.ife (.op (.cmp .Eq) [(.var 4), (.var 3)]) (.lit (.str "full")) (.lit (.str "tight")))))]
def D22 : Def := ⟨[false, false, false, false], 7, false, n22⟩
theorem P22 {k : Nat} : phi tab (k+1) 22 = runD (phi tab k) D22 := rfl
/- 23 class_of: slots 0:items 1:first 2:last 3:width -/
def n23 : List S := [(.exp (.call 1 [false] [(.var 0)])),
  (.exp (.call 7 [false, false, false] [(.var 0), (.var 1), (.var 2)])),
  (.exp (.call 9 [false] [(.var 3)])),
  (.ret (.call 24 [false, false] [(.call 8 [false] [(.call 6 [false, false, false] [(.var 0), (.var 1), (.var 2)])]), (.var 3)]))]
def D23 : Def := ⟨[false, false, false, false], 4, false, n23⟩
theorem P23 {k : Nat} : phi tab (k+1) 23 = runD (phi tab k) D23 := rfl
/- 24 class_of_sums: slots 0:sums 1:width 2:own 3:stretch 4:shrink -/
def n24 : List S := [(.asg (.tup [(.name 2 false), (.name 3 false), (.name 4 false)]) (.var 0)),
  (.ite (.op (.cmp .Gt) [(.var 2), (.op (.bin .Add) [(.var 1), (.var 4)])]) [(.ret (.lit .non))] []),
  (.ite (.op (.cmp .Gt) [(.var 2), (.var 1)]) [(.ret (.ife (.op (.cmp .Gt) [(.op (.bin .Mult) [(.lit (.int 2)), (.op (.bin .Sub) [(.var 2), (.var 1)])]), (.var 4)]) (.lit (.int 0)) (.lit (.int 1))))] []),
  (.ite (.op (.cmp .LtE) [(.op (.bin .Mult) [(.lit (.int 2)), (.op (.bin .Sub) [(.var 1), (.var 2)])]), (.var 3)]) [(.ret (.lit (.int 1)))] []),
  (.ret (.ife (.op (.cmp .LtE) [(.op (.bin .Sub) [(.var 1), (.var 2)]), (.var 3)]) (.lit (.int 2)) (.lit (.int 3))))]
def D24 : Def := ⟨[false, false], 5, false, n24⟩
theorem P24 {k : Nat} : phi tab (k+1) 24 = runD (phi tab k) D24 := rfl
/- 25 _law_start: slots 0:script 1:seed 2:cell -/
def BD25_0 : List S := [(.asg (.name 1 false) (.op (.bin .Add) [(.op (.bin .Mod) [(.op .int [(.op (.bin .Add) [(.op (.bin .Mult) [(.var 1), (.lit (.int 48271))]), (.var 2)])]), (.lit (.int 2147483629))]), (.lit (.int 1))]))]
def FR25_0 : S := .for (.name 2 false) .it [(.var 0)] BD25_0
def n25 : List S := [(.asg (.name 1 false) (.lit (.int 7))),
  FR25_0,
  (.ret (.mk .lst [(.op .list [(.var 0)]), (.lit (.int 0)), (.lit (.int 0)), (.var 1)]))]
def D25 : Def := ⟨[false], 3, true, n25⟩
theorem P25 {k : Nat} : phi tab (k+1) 25 = runD (phi tab k) D25 := rfl
/- 26 _law_draw: slots 0:state* 1:many 2:value -/
def n26 : List S := [(.ite (.and (.op (.cmp .Eq) [(.op .ix [(.var 0), (.lit (.int 1))]), (.lit (.int 0))]) (.op (.cmp .GtE) [(.op .ix [(.var 0), (.lit (.int 2))]), (.op .len [(.op .ix [(.var 0), (.lit (.int 0))])])])) [(.seti 0 (.lit (.int 3)) (.op (.bin .Mod) [(.op .int [(.op (.bin .Add) [(.op (.bin .Mult) [(.op .ix [(.var 0), (.lit (.int 3))]), (.lit (.int 48271))]), (.lit (.int 69621))])]), (.lit (.int 2147483629))])), (.ret (.op (.bin .Mod) [(.op .int [(.op (.bin .FloorDiv) [(.op .ix [(.var 0), (.lit (.int 3))]), (.lit (.int 13))])]), (.var 1)]))] []),
  (.ite (.op (.cmp .Eq) [(.op .ix [(.var 0), (.lit (.int 1))]), (.lit (.int 0))]) [(.seti 0 (.lit (.int 1)) (.op .abs [(.op .ix [(.op .ix [(.var 0), (.lit (.int 0))]), (.op .ix [(.var 0), (.lit (.int 2))])])])), (.seti 0 (.lit (.int 2)) (.op (.bin .Add) [(.op .ix [(.var 0), (.lit (.int 2))]), (.lit (.int 1))]))] []),
  (.asg (.name 2 false) (.op (.bin .Mod) [(.op .int [(.op .ix [(.var 0), (.lit (.int 1))])]), (.var 1)])),
  (.seti 0 (.lit (.int 1)) (.op (.bin .FloorDiv) [(.op .ix [(.var 0), (.lit (.int 1))]), (.var 1)])),
  (.reto 2)]
def D26 : Def := ⟨[true, false], 3, false, n26⟩
theorem P26 {k : Nat} : phi tab (k+1) 26 = runD (phi tab k) D26 := rfl
/- 27 _law_pick: slots 0:state* 1:some -/
def n27 : List S := [(.ret (.op .ix [(.var 1), (.call 26 [true, false] [(.var 0), (.op .len [(.var 1)])])]))]
def D27 : Def := ⟨[true, false], 2, false, n27⟩
theorem P27 {k : Nat} : phi tab (k+1) 27 = runD (phi tab k) D27 := rfl
/- 28 _law_same: slots 0:actual 1:due -/
def n28 : List S := [(.ret (.and (.op (.cmp .Eq) [(.var 0), (.var 1)]) (.op (.cmp .Eq) [(.op .repr [(.var 0)]), (.op .repr [(.var 1)])])))]
def D28 : Def := ⟨[false, false], 2, false, n28⟩
theorem P28 {k : Nat} : phi tab (k+1) 28 = runD (phi tab k) D28 := rfl
/- 29 _law_items: slots 0:state* 1:most 2:style 3:k 4:found* 5:top 6:pick 7:cost -/
def BD29_0 : List S := [(.asg (.name 6 false) (.ife (.op (.cmp .Eq) [(.var 2), (.lit (.int 0))]) (.op (.bin .BitAnd) [(.var 3), (.lit (.int 1))]) (.call 26 [true, false] [(.var 0), (.lit (.int 4))]))), (.ite (.or (.op (.cmp .Eq) [(.var 6), (.lit (.int 0))]) (.and (.op (.cmp .Eq) [(.var 6), (.lit (.int 3))]) (.op (.cmp .Eq) [(.var 2), (.lit (.int 1))]))) [(.exp (.mu .append 4 [(.mk .tup [(.lit (.str "box")), (.call 26 [true, false] [(.var 0), (.op (.bin .Add) [(.var 5), (.lit (.int 1))])])])]))] [(.ite (.op (.cmp .Eq) [(.var 6), (.lit (.int 1))]) [(.exp (.mu .append 4 [(.mk .tup [(.lit (.str "spring")), (.call 26 [true, false] [(.var 0), (.op (.bin .Add) [(.op (.bin .FloorDiv) [(.var 5), (.lit (.int 3))]), (.lit (.int 1))])]), (.call 26 [true, false] [(.var 0), (.op (.bin .Add) [(.op (.bin .FloorDiv) [(.var 5), (.lit (.int 2))]), (.lit (.int 1))])]), (.call 26 [true, false] [(.var 0), (.op (.bin .Add) [(.op (.bin .FloorDiv) [(.var 5), (.lit (.int 4))]), (.lit (.int 1))])])])]))] [(.asg (.name 7 false) (.call 27 [true, false] [(.var 0), (.mk .lst [(.lit (.int 0)), (.lit (.int 50)), (.op .neg [(.lit (.int 50))]), (.lit (.int 10000)), (.lit (.int 9999)), (.op .neg [(.lit (.int 9999))]), (.ife (.op (.cmp .Eq) [(.var 2), (.lit (.int 2))]) (.op .neg [(.lit (.int 10000))]) (.lit (.int 1))), (.op (.bin .Sub) [(.call 26 [true, false] [(.var 0), (.lit (.int 20001))]), (.lit (.int 10000))])])])), (.exp (.mu .append 4 [(.mk .tup [(.lit (.str "fine")), (.var 7), (.call 27 [true, false] [(.var 0), (.mk .lst [(.lit (.int 0)), (.lit (.int 0)), (.call 26 [true, false] [(.var 0), (.op (.bin .Add) [(.op (.bin .FloorDiv) [(.var 5), (.lit (.int 4))]), (.lit (.int 1))])])])]), (.op (.cmp .Eq) [(.call 26 [true, false] [(.var 0), (.lit (.int 2))]), (.lit (.int 0))])])]))])])]
def FR29_0 : S := .for (.name 3 false) .rng [(.call 26 [true, false] [(.var 0), (.var 1)])] BD29_0
def n29 : List S := [(.par [(4, true), (5, false)] [(.mk .lst []), (.call 27 [true, false] [(.var 0), (.mk .lst [(.lit (.int 4)), (.lit (.int 30)), (.lit (.int 100000))])])]),
  (.asg (.name 2 false) (.call 26 [true, false] [(.var 0), (.lit (.int 3))])),
  FR29_0,
  (.ret (.op (.bin .Add) [(.op .tuple [(.var 4)]), (.mk .tup [(.mk .tup [(.lit (.str "fine")), (.op .neg [(.lit (.int 10000))]), (.call 27 [true, false] [(.var 0), (.mk .lst [(.lit (.int 0)), (.lit (.int 0)), (.lit (.int 0)), (.lit (.int 2))])]), (.op (.cmp .Eq) [(.call 26 [true, false] [(.var 0), (.lit (.int 4))]), (.lit (.int 0))])])])]))]
def D29 : Def := ⟨[true, false], 8, false, n29⟩
theorem P29 {k : Nat} : phi tab (k+1) 29 = runD (phi tab k) D29 := rfl
/- 30 _law_must: slots 0:items 1:at -/
def n30 : List S := [(.ret (.and (.op (.cmp .Eq) [(.op .ix [(.op .ix [(.var 0), (.var 1)]), (.lit (.int 0))]), (.lit (.str "fine"))]) (.op (.cmp .Eq) [(.op .ix [(.op .ix [(.var 0), (.var 1)]), (.lit (.int 1))]), (.op .neg [(.lit (.int 10000))])])))]
def D30 : Def := ⟨[false, false], 2, false, n30⟩
theorem P30 {k : Nat} : phi tab (k+1) 30 = runD (phi tab k) D30 := rfl
/- 31 _law_places: slots 0:items 1:found* 2:at -/
def BD31_0 : List S := [(.ite (.or (.and (.op (.cmp .Eq) [(.op .ix [(.op .ix [(.var 0), (.var 2)]), (.lit (.int 0))]), (.lit (.str "fine"))]) (.op (.cmp .Lt) [(.op .ix [(.op .ix [(.var 0), (.var 2)]), (.lit (.int 1))]), (.lit (.int 10000))])) (.and (.op (.cmp .Eq) [(.op .ix [(.op .ix [(.var 0), (.var 2)]), (.lit (.int 0))]), (.lit (.str "spring"))]) (.and (.op (.cmp .Gt) [(.var 2), (.lit (.int 0))]) (.op (.cmp .Eq) [(.op .ix [(.op .ix [(.var 0), (.op (.bin .Sub) [(.var 2), (.lit (.int 1))])]), (.lit (.int 0))]), (.lit (.str "box"))])))) [(.exp (.mu .append 1 [(.var 2)]))] [])]
def FR31_0 : S := .for (.name 2 false) .rng [(.op .len [(.var 0)])] BD31_0
def n31 : List S := [(.asg (.name 1 true) (.mk .lst [])),
  FR31_0,
  (.reto 1)]
def D31 : Def := ⟨[false], 3, false, n31⟩
theorem P31 {k : Nat} : phi tab (k+1) 31 = runD (phi tab k) D31 := rfl
/- 32 _law_begin: slots 0:items 1:first 2:begin -/
def TS32_0 : E := (.and (.op (.cmp .GtE) [(.var 1), (.lit (.int 0))]) (.and (.op (.cmp .Lt) [(.var 2), (.op .len [(.var 0)])]) (.and (.op (.cmp .NotEq) [(.op .ix [(.op .ix [(.var 0), (.var 2)]), (.lit (.int 0))]), (.lit (.str "box"))]) (.ife (.call 30 [false, false] [(.var 0), (.var 2)]) (.lit (.bl false)) (.lit (.bl true))))))
def BD32_0 : List S := [(.asg (.name 2 false) (.op (.bin .Add) [(.var 2), (.lit (.int 1))]))]
def WH32_0 : S := .whl TS32_0 BD32_0
def n32 : List S := [(.asg (.name 2 false) (.op (.bin .Add) [(.var 1), (.lit (.int 1))])),
  WH32_0,
  (.reto 2)]
def D32 : Def := ⟨[false, false], 3, false, n32⟩
theorem P32 {k : Nat} : phi tab (k+1) 32 = runD (phi tab k) D32 := rfl
/- 33 _law_line: slots 0:items 1:first 2:last 3:row 4:item -/
def EL33_0 : E := (.var 4)
def IF33_0 : List E := [(.op (.cmp .NotEq) [(.op .ix [(.var 4), (.lit (.int 0))]), (.lit (.str "fine"))])]
def LC33_0 : E := .lc [4] (.name 4 false) .it [(.op (.sl true true) [(.var 0), (.op .ck [(.call 32 [false, false] [(.var 0), (.var 1)])]), (.op .ck [(.var 2)])])] IF33_0 EL33_0
@[simp] theorem bwLC33_0 {r : R Sts (D × Sts)} {ρ : Sts} : bw LC33_0 ρ r = r.map fun p => (.dat p.1, p.2) := Eq.trans rfl rfl
def n33 : List S := [(.asg (.name 3 false) (.op .tuple [LC33_0])),
  (.ret (.op (.bin .Add) [(.var 3), (.ife (.and (.op (.cmp .Eq) [(.op .ix [(.op .ix [(.var 0), (.var 2)]), (.lit (.int 0))]), (.lit (.str "fine"))]) (.op (.cmp .Gt) [(.op .ix [(.op .ix [(.var 0), (.var 2)]), (.lit (.int 2))]), (.lit (.int 0))])) (.mk .tup [(.mk .tup [(.lit (.str "box")), (.op .ix [(.op .ix [(.var 0), (.var 2)]), (.lit (.int 2))])])]) (.mk .tup []))]))]
def D33 : Def := ⟨[false, false, false], 5, false, n33⟩
theorem P33 {k : Nat} : phi tab (k+1) 33 = runD (phi tab k) D33 := rfl
/- 34 _law_sums: slots 0:row 1:springs 2:item -/
def EL34_0 : E := (.var 2)
def IF34_0 : List E := [(.op (.cmp .Eq) [(.op .ix [(.var 2), (.lit (.int 0))]), (.lit (.str "spring"))])]
def LC34_0 : E := .lc [2] (.name 2 false) .it [(.var 0)] IF34_0 EL34_0
@[simp] theorem bwLC34_0 {r : R Sts (D × Sts)} {ρ : Sts} : bw LC34_0 ρ r = r.map fun p => (.dat p.1, p.2) := Eq.trans rfl rfl
def EL34_1 : E := (.op .ix [(.var 2), (.lit (.int 1))])
def LC34_1 : E := .lc [2] (.name 2 false) .it [(.var 0)] [] EL34_1
@[simp] theorem bwLC34_1 {r : R Sts (D × Sts)} {ρ : Sts} : bw LC34_1 ρ r = r.map fun p => (.dat p.1, p.2) := Eq.trans rfl rfl
def EL34_2 : E := (.op .ix [(.var 2), (.lit (.int 2))])
def LC34_2 : E := .lc [2] (.name 2 false) .it [(.var 1)] [] EL34_2
@[simp] theorem bwLC34_2 {r : R Sts (D × Sts)} {ρ : Sts} : bw LC34_2 ρ r = r.map fun p => (.dat p.1, p.2) := Eq.trans rfl rfl
def EL34_3 : E := (.op .ix [(.var 2), (.lit (.int 3))])
def LC34_3 : E := .lc [2] (.name 2 false) .it [(.var 1)] [] EL34_3
@[simp] theorem bwLC34_3 {r : R Sts (D × Sts)} {ρ : Sts} : bw LC34_3 ρ r = r.map fun p => (.dat p.1, p.2) := Eq.trans rfl rfl
def n34 : List S := [(.asg (.name 1 false) LC34_0),
  (.ret (.mk .tup [(.op .sum [LC34_1]), (.op .sum [LC34_2]), (.op .sum [LC34_3])]))]
def D34 : Def := ⟨[false], 3, false, n34⟩
theorem P34 {k : Nat} : phi tab (k+1) 34 = runD (phi tab k) D34 := rfl
/- 35 _law_bad: slots 0:gap 1:give -/
def n35 : List S := [(.ite (.or (.op (.cmp .Eq) [(.var 0), (.lit (.int 0))]) (.op (.cmp .Eq) [(.var 1), (.lit (.int 0))])) [(.ret (.ife (.op (.cmp .Eq) [(.var 0), (.lit (.int 0))]) (.lit (.int 0)) (.lit (.int 10000))))] []),
  (.ret (.op .min [(.mk .lst [(.lit (.int 10000)), (.op (.bin .FloorDiv) [(.op (.bin .Mult) [(.op (.bin .Mult) [(.op (.bin .Mult) [(.lit (.int 100)), (.var 0)]), (.var 0)]), (.var 0)]), (.op (.bin .Mult) [(.op (.bin .Mult) [(.var 1), (.var 1)]), (.var 1)])])])]))]
def D35 : Def := ⟨[false, false], 2, false, n35⟩
theorem P35 {k : Nat} : phi tab (k+1) 35 = runD (phi tab k) D35 := rfl
/- 36 _law_bad_of: slots 0:sums 1:width 2:own 3:stretch 4:shrink -/
def n36 : List S := [(.asg (.tup [(.name 2 false), (.name 3 false), (.name 4 false)]) (.var 0)),
  (.ite (.op (.cmp .Gt) [(.op (.bin .Sub) [(.var 2), (.var 4)]), (.var 1)]) [(.ret (.lit .non))] []),
  (.ret (.ife (.op (.cmp .LtE) [(.var 2), (.var 1)]) (.call 35 [false, false] [(.op (.bin .Sub) [(.var 1), (.var 2)]), (.var 3)]) (.call 35 [false, false] [(.op (.bin .Sub) [(.var 2), (.var 1)]), (.var 4)])))]
def D36 : Def := ⟨[false, false], 5, false, n36⟩
theorem P36 {k : Nat} : phi tab (k+1) 36 = runD (phi tab k) D36 := rfl
/- 37 _law_class: slots 0:sums 1:width 2:gap 3:own 4:stretch 5:shrink -/
def n37 : List S := [(.asg (.tup [(.name 3 false), (.name 4 false), (.name 5 false)]) (.var 0)),
  (.ite (.op (.cmp .Gt) [(.op (.bin .Sub) [(.var 3), (.var 5)]), (.var 1)]) [(.ret (.lit .non))] []),
  (.ite (.op (.cmp .Gt) [(.var 3), (.var 1)]) [(.ret (.ife (.op (.cmp .Gt) [(.op (.bin .Mult) [(.lit (.int 2)), (.op (.bin .Sub) [(.var 3), (.var 1)])]), (.var 5)]) (.lit (.int 0)) (.lit (.int 1))))] []),
  (.asg (.name 2 false) (.op (.bin .Sub) [(.var 1), (.var 3)])),
  (.ret (.ife (.op (.cmp .LtE) [(.op (.bin .Mult) [(.lit (.int 2)), (.var 2)]), (.var 4)]) (.lit (.int 1)) (.ife (.op (.cmp .LtE) [(.var 2), (.var 4)]) (.lit (.int 2)) (.lit (.int 3)))))]
def D37 : Def := ⟨[false, false], 6, false, n37⟩
theorem P37 {k : Nat} : phi tab (k+1) 37 = runD (phi tab k) D37 := rfl
/- 38 _law_set: slots 0:row 1:width 2:whole 3:item 4:own 5:stretch 6:shrink 7:gap 8:found* 9:place 10:given 11:done 12:wide 13:upto -/
def BD38_0 : List S := [(.asg (.name 12 false) (.op .ix [(.var 3), (.lit (.int 1))])), (.ite (.op (.cmp .Eq) [(.op .ix [(.var 3), (.lit (.int 0))]), (.lit (.str "spring"))]) [(.asg (.name 10 false) (.op (.bin .Add) [(.var 10), (.ife (.op (.cmp .GtE) [(.var 7), (.lit (.int 0))]) (.op .ix [(.var 3), (.lit (.int 2))]) (.op .ix [(.var 3), (.lit (.int 3))]))])), (.asg (.name 13 false) (.ife (.op (.cmp .Gt) [(.var 2), (.lit (.int 0))]) (.op (.bin .FloorDiv) [(.op (.bin .Mult) [(.op .abs [(.var 7)]), (.var 10)]), (.var 2)]) (.lit (.int 0)))), (.asg (.name 12 false) (.op (.bin .Add) [(.var 12), (.ife (.op (.cmp .GtE) [(.var 7), (.lit (.int 0))]) (.op (.bin .Sub) [(.var 13), (.var 11)]) (.op (.bin .Sub) [(.var 11), (.var 13)]))])), (.asg (.name 11 false) (.var 13))] []), (.exp (.mu .append 8 [(.mk .tup [(.var 9), (.var 12)])])), (.asg (.name 9 false) (.op (.bin .Add) [(.var 9), (.var 12)]))]
def FR38_0 : S := .for (.name 3 false) .it [(.var 0)] BD38_0
def n38 : List S := [(.asg (.tup [(.name 4 false), (.name 5 false), (.name 6 false)]) (.call 34 [false] [(.var 0)])),
  (.ite (.op (.cmp .Gt) [(.op (.bin .Sub) [(.var 4), (.var 6)]), (.var 1)]) [(.ret (.lit .non))] []),
  (.par [(7, false), (8, true), (9, false), (10, false), (11, false)] [(.op (.bin .Sub) [(.var 1), (.var 4)]), (.mk .lst []), (.lit (.int 0)), (.lit (.int 0)), (.lit (.int 0))]),
  (.asg (.name 2 false) (.ife (.op (.cmp .GtE) [(.var 7), (.lit (.int 0))]) (.var 5) (.var 6))),
  FR38_0,
  (.ret (.op .tuple [(.var 8)]))]
def D38 : Def := ⟨[false, false], 14, false, n38⟩
theorem P38 {k : Nat} : phi tab (k+1) 38 = runD (phi tab k) D38 := rfl
/- 39 law: slots 0:script 1:state* 2:turn 3:items 4:breaks 5:k 6:last 7:first 8:row 9:sums 10:near 11:width 12:told 13:due 14:word 15:gap 16:give 17:end 18:one -/
def EL39_0 : E := (.var 18)
def IF39_0 : List E := [(.op (.cmp .Lt) [(.var 18), (.var 6)])]
def LC39_0 : E := .lc [18] (.name 18 false) .it [(.var 4)] IF39_0 EL39_0
@[simp] theorem bwLC39_0 {r : R Sts (D × Sts)} {ρ : Sts} : bw LC39_0 ρ r = r.map fun p => (.dat p.1, p.2) := Eq.trans rfl rfl
def BD39_1 : List S := [(.asg (.name 6 false) (.call 27 [true, false] [(.var 1), (.var 4)])), (.asg (.name 7 false) (.call 27 [true, false] [(.var 1), (.op (.bin .Add) [(.mk .lst [(.op .neg [(.lit (.int 1))])]), LC39_0])])), (.asg (.name 8 false) (.call 33 [false, false, false] [(.var 3), (.var 7), (.var 6)])), (.asg (.name 9 false) (.call 34 [false] [(.var 8)])), (.asg (.name 10 false) (.mk .lst [(.op .ix [(.var 9), (.lit (.int 0))]), (.op (.bin .Add) [(.op .ix [(.var 9), (.lit (.int 0))]), (.lit (.int 1))]), (.op (.bin .Sub) [(.op .ix [(.var 9), (.lit (.int 0))]), (.lit (.int 1))]), (.op (.bin .Sub) [(.op .ix [(.var 9), (.lit (.int 0))]), (.op .ix [(.var 9), (.lit (.int 2))])]), (.op (.bin .Sub) [(.op (.bin .Sub) [(.op .ix [(.var 9), (.lit (.int 0))]), (.op .ix [(.var 9), (.lit (.int 2))])]), (.lit (.int 1))]), (.op (.bin .Add) [(.op .ix [(.var 9), (.lit (.int 0))]), (.op .ix [(.var 9), (.lit (.int 1))])]), (.op (.bin .Add) [(.op .ix [(.var 9), (.lit (.int 0))]), (.op (.bin .FloorDiv) [(.op .ix [(.var 9), (.lit (.int 1))]), (.lit (.int 2))])]), (.op (.bin .Sub) [(.op .ix [(.var 9), (.lit (.int 0))]), (.op (.bin .FloorDiv) [(.op .ix [(.var 9), (.lit (.int 2))]), (.lit (.int 2))])]), (.op (.bin .Add) [(.op .ix [(.var 9), (.lit (.int 0))]), (.op (.bin .Mult) [(.lit (.int 2)), (.op .ix [(.var 9), (.lit (.int 1))])])])])), (.asg (.name 11 false) (.op .max [(.mk .lst [(.lit (.int 1)), (.op .min [(.mk .lst [(.lit (.int 100000)), (.call 27 [true, false] [(.var 1), (.op (.bin .Add) [(.op (.bin .Add) [(.var 10), (.var 10)]), (.mk .lst [(.call 26 [true, false] [(.var 1), (.lit (.int 100001))])])])])])])])])), (.asg (.name 12 false) (.mk .lst [(.call 13 [false, false, false, false] [(.var 3), (.var 7), (.var 6), (.var 11)]), (.call 23 [false, false, false, false] [(.var 3), (.var 7), (.var 6), (.var 11)]), (.call 18 [false, false, false, false] [(.var 3), (.var 7), (.var 6), (.var 11)])])), (.asg (.name 13 false) (.call 38 [false, false] [(.var 8), (.var 11)])), (.ite (.ife (.call 28 [false, false] [(.var 12), (.mk .lst [(.call 36 [false, false] [(.var 9), (.var 11)]), (.call 37 [false, false] [(.var 9), (.var 11)]), (.var 13)])]) (.lit (.bl false)) (.lit (.bl true))) [(.ret (.lit (.bl false)))] []), (.asg (.name 14 false) (.ife (.op (.cmp .Is) [(.var 13), (.lit .non)]) (.lit (.str "wide")) (.ife (.op (.cmp .Lt) [(.op .ix [(.var 9), (.lit (.int 0))]), (.var 11)]) (.lit (.str "loose")) (.ife (.op (.cmp .Eq) [(.op .ix [(.var 9), (.lit (.int 0))]), (.var 11)]) (.lit (.str "full")) (.lit (.str "tight")))))), (.ite (.ife (.call 28 [false, false] [(.call 22 [false, false, false, false] [(.var 3), (.var 7), (.var 6), (.var 11)]), (.var 14)]) (.lit (.bl false)) (.lit (.bl true))) [(.ret (.lit (.bl false)))] []), (.ite (.op (.cmp .IsNot) [(.var 13), (.lit .non)]) [(.asg (.name 17 false) (.ife (.op .tru [(.var 13)]) (.op (.bin .Add) [(.op .ix [(.op .ix [(.var 13), (.op .neg [(.lit (.int 1))])]), (.lit (.int 0))]), (.op .ix [(.op .ix [(.var 13), (.op .neg [(.lit (.int 1))])]), (.lit (.int 1))])]) (.lit (.int 0)))), (.ite (.or (.op (.cmp .NotEq) [(.var 17), (.ife (.or (.op (.cmp .Gt) [(.op .ix [(.var 9), (.lit (.int 0))]), (.var 11)]) (.op (.cmp .Gt) [(.op .ix [(.var 9), (.lit (.int 1))]), (.lit (.int 0))])) (.var 11) (.op .ix [(.var 9), (.lit (.int 0))]))]) (.op (.cmp .IsNot) [(.call 20 [false, false, false, false, false] [(.var 3), (.var 7), (.var 6), (.var 11), (.var 13)]), (.lit .non)])) [(.ret (.lit (.bl false)))] [])] [])]
def FR39_1 : S := .for (.name 5 false) .rng [(.lit (.int 8))] BD39_1
def BD39_2 : List S := [(.asg (.name 3 false) (.call 29 [true, false] [(.var 1), (.call 27 [true, false] [(.var 1), (.mk .lst [(.lit (.int 6)), (.lit (.int 20)), (.lit (.int 60))])])])), (.asg (.name 4 false) (.call 31 [false] [(.var 3)])), FR39_1, (.par [(15, false), (16, false)] [(.call 27 [true, false] [(.var 1), (.mk .lst [(.lit (.int 0)), (.lit (.int 1)), (.lit (.int 12000000)), (.call 26 [true, false] [(.var 1), (.lit (.int 99))])])]), (.call 27 [true, false] [(.var 1), (.mk .lst [(.lit (.int 0)), (.lit (.int 1)), (.lit (.int 12000000)), (.op (.bin .Add) [(.lit (.int 1)), (.call 26 [true, false] [(.var 1), (.lit (.int 99))])])])])]), (.ite (.ife (.call 28 [false, false] [(.call 15 [false, false] [(.var 15), (.var 16)]), (.call 35 [false, false] [(.var 15), (.var 16)])]) (.lit (.bl false)) (.lit (.bl true))) [(.ret (.lit (.bl false)))] [])]
def FR39_2 : S := .for (.name 2 false) .rng [(.lit (.int 3))] BD39_2
def n39 : List S := [(.asg (.name 1 true) (.call 25 [false] [(.var 0)])),
  FR39_2,
  (.ret (.lit (.bl true)))]
def D39 : Def := ⟨[false], 19, false, n39⟩
theorem P39 {k : Nat} : phi tab (k+1) 39 = runD (phi tab k) D39 := rfl
end W
namespace W
open PySem DL L2
variable {k : Nat} {Φ : Nat → Fn}
/-! ## badness -/
def badI (g v : Int) : Int := if g = 0 then 0 else if v = 0 then 10000 else if (100 * g * g * g).fdiv (v * v * v) < 10000 then (100 * g * g * g).fdiv (v * v * v) else 10000
theorem small9 {g : Int} (h : 0 ≤ g ∧ g ≤ 1000000000) : smallI g = true := smallI_of' (by omega)
theorem cube_ok {v : Int} (h : 0 ≤ v ∧ v ≤ 1000000000) (h0 : v ≠ 0) : divOk (v * v * v) = true := by
  obtain ⟨n, rfl⟩ : ∃ n : Nat, v = n := ⟨v.toNat, by omega⟩
  have hn : n ≤ 1000000000 := by omega
  have h1 : n * n ≤ 1000000000 * 1000000000 := Nat.mul_le_mul hn hn
  have h2 : n * n * n ≤ 1000000000 * 1000000000 * 1000000000 := Nat.mul_le_mul h1 hn
  refine divOk_of' (fun z => ?_) ?_
  · rcases Int.mul_eq_zero.mp z with z | z
    · rcases Int.mul_eq_zero.mp z with z | z <;> exact h0 z
    · exact h0 z
  · have e : ((n : Int) * n * n).natAbs = n * n * n := by
      rw [Int.natAbs_mul, Int.natAbs_mul]; rfl
    rw [e]
    exact Nat.lt_of_le_of_lt h2 (by decide)
theorem body10 {g v : Int} (hg : 0 ≤ g ∧ g ≤ 1000000000) (hv : 0 ≤ v ∧ v ≤ 1000000000) : runD Φ D10 [.int g, .int v] = .ok (.val (.int (badI g v)), []) := by
  have m1 := bin_mul (i := 100) (j := g) (mulOk_l (by decide))
  have m2 := bin_mul (i := 100 * g) (j := g) (mulOk_r (small9 hg))
  have m3 := bin_mul (i := 100 * g * g) (j := g) (mulOk_r (small9 hg))
  have m4 := bin_mul (i := v) (j := v) (mulOk_r (small9 hv))
  have m5 := bin_mul (i := v * v) (j := v) (mulOk_r (small9 hv))
  have fin : evSs Φ n10 [.val (.int g), .val (.int v)] = .ok (.rt (.val (.int (badI g v))) [.val (.int g), .val (.int v)]) := by
    by_cases h0 : g = 0
    · simp [n10, h0, badI]
    · by_cases h1 : v = 0
      · simp [n10, h0, h1, badI]
      · have d := bin_div (i := 100 * g * g * g) (cube_ok hv h1)
        simp [n10, h0, h1, badI, m1, m2, m3, m4, m5, d]
  exact runD_rt (d := D10) (ds := [.int g, .int v]) rfl fin rfl rfl
theorem body35 {g v : Int} (hg : 0 ≤ g ∧ g ≤ 1000000000) (hv : 0 ≤ v ∧ v ≤ 1000000000) : runD Φ D35 [.int g, .int v] = .ok (.val (.int (badI g v)), []) := by
  have m1 := bin_mul (i := 100) (j := g) (mulOk_l (by decide))
  have m2 := bin_mul (i := 100 * g) (j := g) (mulOk_r (small9 hg))
  have m3 := bin_mul (i := 100 * g * g) (j := g) (mulOk_r (small9 hg))
  have m4 := bin_mul (i := v) (j := v) (mulOk_r (small9 hv))
  have m5 := bin_mul (i := v * v) (j := v) (mulOk_r (small9 hv))
  have fin : evSs Φ n35 [.val (.int g), .val (.int v)] = .ok (.rt (.val (.int (badI g v))) [.val (.int g), .val (.int v)]) := by
    by_cases h0 : g = 0
    · simp [n35, h0, badI]
    · by_cases h1 : v = 0
      · simp [n35, h0, h1, badI]
      · have d := bin_div (i := 100 * g * g * g) (cube_ok hv h1)
        simp [n35, h0, h1, badI, m1, m2, m3, m4, m5, d]
  exact runD_rt (d := D35) (ds := [.int g, .int v]) rfl fin rfl rfl
/-- three sums, a width: what is none is None -/
structure Sm (a b c w : Int) : Prop where
  ha : 0 ≤ a ∧ a ≤ 500000000
  hb : 0 ≤ b ∧ b ≤ 500000000
  hc : 0 ≤ c ∧ c ≤ 500000000
  hw : 1 ≤ w ∧ w ≤ 100000
def badS (a b c w : Int) : D := if w + c < a then .non else if a ≤ w then .int (badI (w - a) b) else .int (badI (a - w) c)
theorem body12 {a b c w : Int} (h : Sm a b c w) (hb : ∀ g v : Int, 0 ≤ g ∧ g ≤ 1000000000 → 0 ≤ v ∧ v ≤ 1000000000 → Φ 10 [.int g, .int v] = .ok (.val (.int (badI g v)), [])) :
    runD Φ D12 [.tup [.int a, .int b, .int c], .int w] = .ok (.val (badS a b c w), []) := by
  have fin : evSs Φ n12 [.val (.tup [.int a, .int b, .int c]), .val (.int w), .emp, .emp, .emp] = .ok (.rt (.val (badS a b c w)) [.val (.tup [.int a, .int b, .int c]), .val (.int w), .val (.int a), .val (.int b), .val (.int c)]) := by
    obtain ⟨h1, h2, h3, h4⟩ := h
    by_cases z : w + c < a
    · simp [n12, z, badS]
    · by_cases z2 : a ≤ w
      · have e := hb (w - a) b (by omega) (by omega)
        simp [n12, z, z2, badS, e]
      · have e := hb (a - w) c (by omega) (by omega)
        simp [n12, z, z2, badS, e]
  exact runD_rt (d := D12) (ds := [.tup [.int a, .int b, .int c], .int w]) rfl fin rfl rfl
theorem body36 {a b c w : Int} (h : Sm a b c w) (hb : ∀ g v : Int, 0 ≤ g ∧ g ≤ 1000000000 → 0 ≤ v ∧ v ≤ 1000000000 → Φ 35 [.int g, .int v] = .ok (.val (.int (badI g v)), [])) :
    runD Φ D36 [.tup [.int a, .int b, .int c], .int w] = .ok (.val (badS a b c w), []) := by
  have fin : evSs Φ n36 [.val (.tup [.int a, .int b, .int c]), .val (.int w), .emp, .emp, .emp] = .ok (.rt (.val (badS a b c w)) [.val (.tup [.int a, .int b, .int c]), .val (.int w), .val (.int a), .val (.int b), .val (.int c)]) := by
    obtain ⟨h1, h2, h3, h4⟩ := h
    by_cases z : w + c < a
    · have z' : w < a - c := by omega
      simp [n36, z, z', badS]
    · have z' : ¬ (w < a - c) := by omega
      by_cases z2 : a ≤ w
      · have e := hb (w - a) b (by omega) (by omega)
        simp [n36, z, z', z2, badS, e]
      · have e := hb (a - w) c (by omega) (by omega)
        simp [n36, z, z', z2, badS, e]
  exact runD_rt (d := D36) (ds := [.tup [.int a, .int b, .int c], .int w]) rfl fin rfl rfl
/-! ## classes -/
def clsS (a b c w : Int) : D := if w + c < a then .non else if w < a then (if c < 2 * (a - w) then .int 0 else .int 1) else if 2 * (w - a) ≤ b then .int 1 else if w - a ≤ b then .int 2 else .int 3
theorem body24 {a b c w : Int} : runD Φ D24 [.tup [.int a, .int b, .int c], .int w] = .ok (.val (clsS a b c w), []) := by
  have m := fun x : Int => bin_mul (i := 2) (j := x) (mulOk_l (by decide))
  have fin : evSs Φ n24 [.val (.tup [.int a, .int b, .int c]), .val (.int w), .emp, .emp, .emp] = .ok (.rt (.val (clsS a b c w)) [.val (.tup [.int a, .int b, .int c]), .val (.int w), .val (.int a), .val (.int b), .val (.int c)]) := by
    by_cases z : w + c < a
    · simp [n24, z, clsS]
    · by_cases z2 : w < a
      · by_cases z3 : c < 2 * (a - w) <;> simp [n24, z, z2, z3, m, clsS]
      · by_cases z3 : 2 * (w - a) ≤ b
        · simp [n24, z, z2, z3, m, clsS]
        · by_cases z4 : w - a ≤ b <;> simp [n24, z, z2, z3, z4, m, clsS]
  exact runD_rt (d := D24) (ds := [.tup [.int a, .int b, .int c], .int w]) rfl fin rfl rfl
theorem body37 {a b c w : Int} : runD Φ D37 [.tup [.int a, .int b, .int c], .int w] = .ok (.val (clsS a b c w), []) := by
  have m := fun x : Int => bin_mul (i := 2) (j := x) (mulOk_l (by decide))
  have fin : ∃ t, evSs Φ n37 [.val (.tup [.int a, .int b, .int c]), .val (.int w), .emp, .emp, .emp, .emp] = .ok (.rt (.val (clsS a b c w)) [.val (.tup [.int a, .int b, .int c]), .val (.int w), t, .val (.int a), .val (.int b), .val (.int c)]) := by
    by_cases z : w + c < a
    · have z' : w < a - c := by omega
      exact ⟨.emp, by simp [n37, z, z', clsS]⟩
    · have z' : ¬ (w < a - c) := by omega
      by_cases z2 : w < a
      · exact ⟨.emp, by by_cases z3 : c < 2 * (a - w) <;> simp [n37, z, z', z2, z3, m, clsS]⟩
      · refine ⟨.val (.int (w - a)), ?_⟩
        by_cases z3 : 2 * (w - a) ≤ b
        · simp [n37, z, z', z2, z3, m, clsS]
        · by_cases z4 : w - a ≤ b <;> simp [n37, z, z', z2, z3, z4, m, clsS]
  obtain ⟨t, fin⟩ := fin
  exact runD_rt (d := D37) (ds := [.tup [.int a, .int b, .int c], .int w]) rfl fin rfl rfl
end W
namespace W
open PySem DL L2
variable {k : Nat} {Φ : Nat → Fn}
/-! ## shares -/
def U (g whole G : Int) : Int := if 0 < whole then (g * G).fdiv whole else 0
theorem U0 {g whole : Int} : U g whole 0 = 0 := by
  unfold U
  split
  · rw [Int.mul_zero]; exact Int.zero_fdiv _
  · rfl
def chs (g whole : Int) : List Int → Int → List Int
  | [], _ => []
  | v :: vs, G => (U g whole (G + v) - U g whole G) :: chs g whole vs (G + v)
theorem chs_app {g whole : Int} {a : Int} : ∀ {vs : List Int} {G : Int}, chs g whole (vs ++ [a]) G = chs g whole vs G ++ [U g whole (G + vs.sum + a) - U g whole (G + vs.sum)]
  | [], G => by simp [chs]
  | v :: vs, G => by
    show _ :: chs g whole (vs ++ [a]) (G + v) = _
    rw [chs_app]
    simp [chs, Int.add_assoc]
theorem chs_len {g whole : Int} : ∀ {vs : List Int} {G : Int}, (chs g whole vs G).length = vs.length
  | [], G => rfl
  | v :: vs, G => by simp [chs, chs_len]
theorem body16 {g : Int} {gs : List Int} (hg : 0 ≤ g ∧ g ≤ 1000000000) (hs : gs.sum ≤ 1000000000) (hl : gs.length ≤ 1000) : runD Φ D16 [.int g, .lst (gs.map .int)] = .ok (.val (.lst ((chs g gs.sum gs 0).map .int)), []) := by
  obtain ⟨ρ', f1, t6, t7, f2⟩ := for_ty (Φ := Φ) (t := .name 6 false) (k := .it) (src := [(.var 1)]) (b := BD16_0) (ρ := [.val (.int g), .val (.lst (gs.map .int)), .val (.int gs.sum), .own (.lst []), .val (.int 0), .val (.int 0), .emp, .emp])
    gs D.int (fun pre ρ => ∃ t6 t7, ρ = [.val (.int g), .val (.lst (gs.map .int)), .val (.int gs.sum), .own (.lst ((chs g gs.sum pre 0).map .int)), .val (.int (U g gs.sum pre.sum)), .val (.int pre.sum), t6, t7]) rfl src_itL
    (fun pre a post ρ h ⟨t6, t7, hρ⟩ => by
      subst hρ
      have hp : pre.length < 1000 := by
        have := congrArg List.length h
        simp at this; omega
      have ap : ∀ y : D, muf .append (.lst ((chs g gs.sum pre 0).map .int)) [y] = some (.non, .lst ((chs g gs.sum pre 0).map .int ++ [y])) := fun y => muf_app (by rw [List.length_map, chs_len]; show _ < 16777216; omega)
      have m := bin_mul (i := g) (j := pre.sum + a) (mulOk_l (small9 hg))
      refine ⟨_, [.val (.int g), .val (.lst (gs.map .int)), .val (.int gs.sum), .own (.lst ((chs g gs.sum (pre ++ [a]) 0).map .int)), .val (.int (U g gs.sum (pre ++ [a]).sum)), .val (.int (pre ++ [a]).sum), .val (.int a), .val (.int (U g gs.sum (pre ++ [a]).sum))], rfl, .inl ?_, _, _, rfl⟩
      rw [chs_app]
      by_cases h0 : 0 < gs.sum
      · have d := bin_div (i := g * (pre.sum + a)) (j := gs.sum) (divOk_of h0 (by omega))
        simp [BD16_0, h0, m, d, ap, U]
      · simp [BD16_0, h0, ap, U]) ⟨.emp, .emp, by simp [chs, U0]⟩
  subst f2
  have f1' : evS Φ FR16_0 _ = _ := f1
  have fin : evSs Φ n16 [.val (.int g), .val (.lst (gs.map .int)), .emp, .emp, .emp, .emp, .emp, .emp] = .ok (.rt (.own (.lst ((chs g gs.sum gs 0).map .int))) [.val (.int g), .val (.lst (gs.map .int)), .val (.int gs.sum), .emp, .val (.int (U g gs.sum gs.sum)), .val (.int gs.sum), t6, t7]) := by
    simp [n16, f1']
  exact runD_rt (d := D16) (ds := [.int g, .lst (gs.map .int)]) rfl fin rfl rfl
/-! ## rows set -/
def sa (r : List Itm) : Int := (r.map Itm.n1).sum
def sb (r : List Itm) : Int := ((r.filter Itm.isSpring).map Itm.n2).sum
def sc (r : List Itm) : Int := ((r.filter Itm.isSpring).map Itm.n3).sum
theorem sumI_eq {r : List Itm} : sumI r = .tup [.int (sa r), .int (sb r), .int (sc r)] := rfl
def gv (gap : Int) : Itm → Int
  | .spring _ b c => if 0 ≤ gap then b else c
  | _ => 0
def whole (gap : Int) (r : List Itm) : Int := (r.map (gv gap)).sum
def ab (gap : Int) : Int := if gap < 0 then -gap else gap
def sg (gap x : Int) : Int := if 0 ≤ gap then x else -x
def wI (gap wh : Int) : List Itm → Int → List Int
  | [], _ => []
  | it :: r, G => (it.n1 + sg gap (U (ab gap) wh (G + gv gap it) - U (ab gap) wh G)) :: wI gap wh r (G + gv gap it)
theorem wI_app {gap wh : Int} {it : Itm} : ∀ {r : List Itm} {G : Int}, wI gap wh (r ++ [it]) G = wI gap wh r G ++ [it.n1 + sg gap (U (ab gap) wh (G + whole gap r + gv gap it) - U (ab gap) wh (G + whole gap r))]
  | [], G => by simp [wI, whole]
  | v :: r, G => by
    show _ :: wI gap wh (r ++ [it]) (G + gv gap v) = _
    rw [wI_app]
    simp [wI, whole, Int.add_assoc]
theorem wI_len {gap wh : Int} : ∀ {r : List Itm} {G : Int}, (wI gap wh r G).length = r.length
  | [], G => rfl
  | v :: r, G => by simp [wI, wI_len]
theorem whole_eq {gap : Int} {r : List Itm} : whole gap r = if 0 ≤ gap then sb r else sc r := by
  unfold whole sb sc
  induction r with
  | nil => simp
  | cons it r ih =>
    cases it with
    | spring a b c =>
      rw [List.map_cons, List.sum_cons, ih, List.filter_cons_of_pos rfl]
      by_cases h : 0 ≤ gap <;> simp [gv, h, Itm.n2, Itm.n3]
    | box w =>
      rw [List.map_cons, List.sum_cons, ih, List.filter_cons_of_neg (by simp [Itm.isSpring])]
      simp [gv]
    | fine c w m =>
      rw [List.map_cons, List.sum_cons, ih, List.filter_cons_of_neg (by simp [Itm.isSpring])]
      simp [gv]
theorem zip_wI {gap wh : Int} : ∀ {r : List Itm} {G : Int}, (r.zip (chs (ab gap) wh (r.map (gv gap)) G)).map (fun p => p.1.n1 + sg gap p.2) = wI gap wh r G
  | [], G => rfl
  | v :: r, G => by
    show _ :: (r.zip (chs (ab gap) wh (r.map (gv gap)) (G + gv gap v))).map _ = _ :: wI gap wh r (G + gv gap v)
    rw [zip_wI]
structure RowOk (r : List Itm) : Prop where
  row : Row r
  ok : ∀ it ∈ r, it.ok
  len : r.length ≤ 200
theorem RowOk.bnd {r : List Itm} (h : RowOk r) : (0 ≤ sa r ∧ sa r ≤ 500000000) ∧ (0 ≤ sb r ∧ sb r ≤ 500000000) ∧ (0 ≤ sc r ∧ sc r ≤ 500000000) := by
  have b1 := sum_bnd (f := Itm.n1) (r := r) (fun it hit => by
    have o := h.ok it hit
    have n := h.row.nf it hit
    cases it with
    | fine _ _ _ => cases n
    | box w => exact o
    | spring a b c => exact o.1)
  have fl : (r.filter Itm.isSpring).length ≤ r.length := (List.filter_sublist).length_le
  have b2 := sum_bnd (f := Itm.n2) (r := r.filter Itm.isSpring) (fun it hit => by
    obtain ⟨m1, m2⟩ := List.mem_filter.mp hit
    obtain ⟨a, b, c, rfl⟩ := spring_of m2
    exact (h.ok _ m1).2.1)
  have b3 := sum_bnd (f := Itm.n3) (r := r.filter Itm.isSpring) (fun it hit => by
    obtain ⟨m1, m2⟩ := List.mem_filter.mp hit
    obtain ⟨a, b, c, rfl⟩ := spring_of m2
    exact (h.ok _ m1).2.2)
  have hl := h.len
  unfold sa sb sc
  omega
theorem gaps_ok (r : List Itm) (hr : RowOk r) {w gap : Int} {s5 s6 s7 t4 : Slot} :
    ev Φ LC17_0 [.val (.lst (ds r)), .val (.int w), .val (.int gap), .emp, t4, s5, s6, s7, .emp, .emp] = .ok (.own (.lst ((r.map (gv gap)).map .int)), [.val (.lst (ds r)), .val (.int w), .val (.int gap), .emp, t4, s5, s6, s7, .emp, .emp]) := by
  have e := lc_ty0 (Φ := Φ) (vs := [8]) (t := .name 8 false) (k := .it) (src := [.var 0]) (elt := EL17_0) (ρ := [.val (.lst (ds r)), .val (.int w), .val (.int gap), .emp, t4, s5, s6, s7, .emp, .emp]) r Itm.d (fun it => D.int (gv gap it)) rfl src_itL rfl (fun it hit => by
    refine ⟨[.val (.lst (ds r)), .val (.int w), .val (.int gap), .emp, t4, s5, s6, s7, .val it.d, .emp], rfl, ?_, rfl⟩
    have n := hr.row.nf it hit
    cases it with
    | fine _ _ _ => cases n
    | box x => simp [EL17_0, Itm.d, gv]
    | spring a b c => by_cases h : 0 ≤ gap <;> simp [EL17_0, Itm.d, gv, h]) (by have := hr.len; show _ ≤ 16777216; omega)
  rw [List.map_map]
  exact e
def widS (r : List Itm) (w : Int) : D := if w + sc r < sa r then .non else .lst ((wI (w - sa r) (whole (w - sa r) r) r 0).map .int)
theorem body17 {r : List Itm} {w : Int} (hr : RowOk r) (hw : 1 ≤ w ∧ w ≤ 100000) (h8 : Φ 8 [.lst (ds r)] = .ok (.val (sumI r), []))
    (h16 : ∀ (g : Int) (gs : List Int), 0 ≤ g ∧ g ≤ 1000000000 → gs.sum ≤ 1000000000 → gs.length ≤ 1000 → Φ 16 [.int g, .lst (gs.map .int)] = .ok (.val (.lst ((chs g gs.sum gs 0).map .int)), [])) :
    runD Φ D17 [.lst (ds r), .int w] = .ok (.val (widS r w), []) := by
  rw [sumI_eq] at h8
  obtain ⟨b1, b2, b3⟩ := hr.bnd
  have hl := hr.len
  by_cases z : w + sc r < sa r
  · have fin : evSs Φ n17 [.val (.lst (ds r)), .val (.int w), .emp, .emp, .emp, .emp, .emp, .emp, .emp, .emp] = .ok (.rt (.val (widS r w)) [.val (.lst (ds r)), .val (.int w), .emp, .emp, .emp, .val (.int (sa r)), .val (.int (sb r)), .val (.int (sc r)), .emp, .emp]) := by
      simp [n17, h8, z, widS]
    exact runD_rt (d := D17) (ds := [.lst (ds r), .int w]) rfl fin rfl rfl
  · have e1 := gaps_ok (Φ := Φ) r hr (w := w) (gap := w - sa r) (s5 := .val (.int (sa r))) (s6 := .val (.int (sb r))) (s7 := .val (.int (sc r))) (t4 := .emp)
    have wb : whole (w - sa r) r ≤ 1000000000 := by rw [whole_eq]; split <;> omega
    have abe : (if w - sa r < 0 then -(w - sa r) else w - sa r) = ab (w - sa r) := rfl
    have e2 := h16 (ab (w - sa r)) (r.map (gv (w - sa r))) (by unfold ab; split <;> omega) wb (by rw [List.length_map]; omega)
    generalize hgs : r.map (gv (w - sa r)) = gs at e1 e2
    have e3 : ev Φ LC17_1 [.val (.lst (ds r)), .val (.int w), .val (.int (w - sa r)), .val (.lst (gs.map .int)), .val (.lst ((chs (ab (w - sa r)) gs.sum gs 0).map .int)), .val (.int (sa r)), .val (.int (sb r)), .val (.int (sc r)), .emp, .emp] =
        .ok (.own (.lst ((wI (w - sa r) (whole (w - sa r) r) r 0).map .int)), [.val (.lst (ds r)), .val (.int w), .val (.int (w - sa r)), .val (.lst (gs.map .int)), .val (.lst ((chs (ab (w - sa r)) gs.sum gs 0).map .int)), .val (.int (sa r)), .val (.int (sb r)), .val (.int (sc r)), .emp, .emp]) := by
      have hz : whole (w - sa r) r = gs.sum := by rw [← hgs]; rfl
      rw [← zip_wI, hgs, List.map_map, hz]
      refine lc_ty0S [.lst (ds r), .lst ((chs (ab (w - sa r)) gs.sum gs 0).map .int)] (r.zip (chs (ab (w - sa r)) gs.sum gs 0)) (fun p => D.tup [p.1.d, .int p.2]) _ rfl (by
        rw [zip_ll]; unfold W.ds; rw [zip_map]) rfl rfl (fun p hp => ?_) (by rw [List.length_zip]; show _ ≤ 16777216; omega)
      obtain ⟨it, x⟩ := p
      have hit : it ∈ r := (List.of_mem_zip hp).1
      refine ⟨[.val (.lst (ds r)), .val (.int w), .val (.int (w - sa r)), .val (.lst (gs.map .int)), .val (.lst ((chs (ab (w - sa r)) gs.sum gs 0).map .int)), .val (.int (sa r)), .val (.int (sb r)), .val (.int (sc r)), .val it.d, .val (.int x)], by simp, ?_, by simp⟩
      have n := hr.row.nf it hit
      cases it with
      | fine _ _ _ => cases n
      | box y => generalize w - sa r = gap; by_cases h : 0 ≤ gap <;> simp [EL17_1, Itm.d, sg, h, Itm.n1]
      | spring a b c => generalize w - sa r = gap; by_cases h : 0 ≤ gap <;> simp [EL17_1, Itm.d, sg, h, Itm.n1]
    have fin : evSs Φ n17 [.val (.lst (ds r)), .val (.int w), .emp, .emp, .emp, .emp, .emp, .emp, .emp, .emp] = .ok (.rt (.own (widS r w)) [.val (.lst (ds r)), .val (.int w), .val (.int (w - sa r)), .val (.lst (gs.map .int)), .val (.lst ((chs (ab (w - sa r)) gs.sum gs 0).map .int)), .val (.int (sa r)), .val (.int (sb r)), .val (.int (sc r)), .emp, .emp]) := by
      simp [n17, h8, z, widS, e1, abe, e2, e3]
    exact runD_rt (d := D17) (ds := [.lst (ds r), .int w]) rfl fin rfl rfl
end W
namespace W
open PySem DL L2
variable {k : Nat} {Φ : Nat → Fn}
def plI : List Int → Int → List (Int × Int)
  | [], _ => []
  | w :: ws, p => (p, w) :: plI ws (p + w)
theorem plI_app {w : Int} : ∀ {ws : List Int} {p : Int}, plI (ws ++ [w]) p = plI ws p ++ [(p + ws.sum, w)]
  | [], p => by simp [plI]
  | v :: ws, p => by
    show _ :: plI (ws ++ [w]) (p + v) = _
    rw [plI_app]
    simp [plI, Int.add_assoc]
theorem plI_len : ∀ {ws : List Int} {p : Int}, (plI ws p).length = ws.length
  | [], p => rfl
  | v :: ws, p => by simp [plI, plI_len]
def prD (p : Int × Int) : D := .tup [.int p.1, .int p.2]
def wlist (r : List Itm) (w : Int) : List Int := wI (w - sa r) (whole (w - sa r) r) r 0
def dueS (r : List Itm) (w : Int) : D := if w + sc r < sa r then .non else .tup ((plI (wlist r w) 0).map prD)
theorem body19 {r : List Itm} {w : Int} (hr : RowOk r) (h17 : Φ 17 [.lst (ds r), .int w] = .ok (.val (widS r w), [])) : runD Φ D19 [.lst (ds r), .int w] = .ok (.val (dueS r w), []) := by
  by_cases z : w + sc r < sa r
  · have e : widS r w = .non := if_pos z
    rw [e] at h17
    have fin : evSs Φ n19 [.val (.lst (ds r)), .val (.int w), .emp, .emp, .emp, .emp] = .ok (.rt (.val (dueS r w)) [.val (.lst (ds r)), .val (.int w), .val .non, .emp, .emp, .emp]) := by
      simp [n19, h17, z, dueS]
    exact runD_rt (d := D19) (ds := [.lst (ds r), .int w]) rfl fin rfl rfl
  · have e : widS r w = .lst ((wlist r w).map .int) := if_neg z
    rw [e] at h17
    have hl := hr.len
    have wl : (wlist r w).length = r.length := wI_len
    obtain ⟨ρ', f1, t5, f2⟩ := for_ty (Φ := Φ) (t := .name 5 false) (k := .it) (src := [(.var 2)]) (b := BD19_0) (ρ := [.val (.lst (ds r)), .val (.int w), .val (.lst ((wlist r w).map .int)), .own (.lst []), .val (.int 0), .emp])
      (wlist r w) D.int (fun pre ρ => ∃ t5, ρ = [.val (.lst (ds r)), .val (.int w), .val (.lst ((wlist r w).map .int)), .own (.lst ((plI pre 0).map prD)), .val (.int pre.sum), t5]) rfl src_itL
      (fun pre a post ρ h ⟨t5, hρ⟩ => by
        subst hρ
        have hp : pre.length < 1000 := by
          have := congrArg List.length h
          simp [wl] at this; omega
        have ap : ∀ y : D, muf .append (.lst ((plI pre 0).map prD)) [y] = some (.non, .lst ((plI pre 0).map prD ++ [y])) := fun y => muf_app (by rw [List.length_map, plI_len]; show _ < 16777216; omega)
        refine ⟨_, [.val (.lst (ds r)), .val (.int w), .val (.lst ((wlist r w).map .int)), .own (.lst ((plI (pre ++ [a]) 0).map prD)), .val (.int (pre ++ [a]).sum), .val (.int a)], rfl, .inl ?_, _, rfl⟩
        rw [plI_app]
        simp [BD19_0, ap, prD]) ⟨.emp, by simp [plI]⟩
    subst f2
    have f1' : evS Φ FR19_0 _ = _ := f1
    have fin : evSs Φ n19 [.val (.lst (ds r)), .val (.int w), .emp, .emp, .emp, .emp] = .ok (.rt (.val (dueS r w)) [.val (.lst (ds r)), .val (.int w), .val (.lst ((wlist r w).map .int)), .own (.lst ((plI (wlist r w) 0).map prD)), .val (.int (wlist r w).sum), t5]) := by
      simp [n19, h17, z, dueS, f1']
    exact runD_rt (d := D19) (ds := [.lst (ds r), .int w]) rfl fin rfl rfl
/-- the law's own -/
theorem body38 {r : List Itm} {w : Int} (hr : RowOk r) (hw : 1 ≤ w ∧ w ≤ 100000) (h8 : Φ 34 [.tup (ds r)] = .ok (.val (sumI r), [])) : runD Φ D38 [.tup (ds r), .int w] = .ok (.val (dueS r w), []) := by
  rw [sumI_eq] at h8
  obtain ⟨b1, b2, b3⟩ := hr.bnd
  have hl := hr.len
  by_cases z : w + sc r < sa r
  · have z' : w < sa r - sc r := by omega
    have fin : evSs Φ n38 [.val (.tup (ds r)), .val (.int w), .emp, .emp, .emp, .emp, .emp, .emp, .emp, .emp, .emp, .emp, .emp, .emp] = .ok (.rt (.val (dueS r w)) [.val (.tup (ds r)), .val (.int w), .emp, .emp, .val (.int (sa r)), .val (.int (sb r)), .val (.int (sc r)), .emp, .emp, .emp, .emp, .emp, .emp, .emp]) := by
      simp [n38, h8, z, z', dueS]
    exact runD_rt (d := D38) (ds := [.tup (ds r), .int w]) rfl fin rfl rfl
  · have z' : ¬ (w < sa r - sc r) := by omega
    have due : dueS r w = .tup ((plI (wlist r w) 0).map prD) := if_neg z
    rw [due]
    unfold wlist
    have hwh : whole (w - sa r) r = if 0 ≤ w - sa r then sb r else sc r := whole_eq
    have hwh2 : ∀ ρ : Sts, (if 0 ≤ w - sa r then (R.ok (Slot.val (D.int (sb r)), ρ) : R Sts (Slot × Sts)) else .ok (.val (.int (sc r)), ρ)) = .ok (.val (.int (whole (w - sa r) r)), ρ) := fun ρ => by rw [hwh]; split <;> rfl
    have wb : whole (w - sa r) r ≤ 500000000 := by rw [hwh]; split <;> omega
    have gb : -1000000000 ≤ w - sa r ∧ w - sa r ≤ 1000000000 := by omega
    obtain ⟨gap, hgap⟩ : ∃ gap, gap = w - sa r := ⟨_, rfl⟩
    obtain ⟨wh, hwhd⟩ : ∃ wh, wh = whole (w - sa r) r := ⟨_, rfl⟩
    rw [← hwhd] at hwh2 wb
    rw [← hwhd]
    rw [← hgap] at hwh2 gb ⊢
    obtain ⟨ρ', f1, t3, t12, t13, f2⟩ := for_ty (Φ := Φ) (t := .name 3 false) (k := .it) (src := [(.var 0)]) (b := BD38_0) (ρ := [.val (.tup (ds r)), .val (.int w), .val (.int wh), .emp, .val (.int (sa r)), .val (.int (sb r)), .val (.int (sc r)), .val (.int gap), .own (.lst []), .val (.int 0), .val (.int 0), .val (.int 0), .emp, .emp])
      r Itm.d (fun pre ρ => ∃ t3 t12 t13, ρ = [.val (.tup (ds r)), .val (.int w), .val (.int wh), t3, .val (.int (sa r)), .val (.int (sb r)), .val (.int (sc r)), .val (.int gap), .own (.lst ((plI (wI gap wh pre 0) 0).map prD)), .val (.int (wI gap wh pre 0).sum), .val (.int (whole gap pre)), .val (.int (U (ab gap) wh (whole gap pre))), t12, t13]) rfl src_itT
      (fun pre it post ρ h ⟨t3, t12, t13, hρ⟩ => by
        subst hρ
        have hp : pre.length < 1000 := by
          have := congrArg List.length h
          simp at this; omega
        have ap : ∀ y : D, muf .append (.lst ((plI (wI gap wh pre 0) 0).map prD)) [y] = some (.non, .lst ((plI (wI gap wh pre 0) 0).map prD ++ [y])) := fun y => muf_app (by rw [List.length_map, plI_len, wI_len]; show _ < 16777216; omega)
        have n := hr.row.nf it (by rw [h]; simp)
        have wa : whole gap (pre ++ [it]) = whole gap pre + gv gap it := by unfold whole; simp
        have m := fun x : Int => bin_mul (i := ab gap) (j := x) (mulOk_l (smallI_of' (by unfold ab; split <;> omega)))
        have abe : (if gap < 0 then -gap else gap) = ab gap := rfl
        have abn : gap < 0 → -gap = ab gap := fun h => (if_pos h).symm
        cases it with
        | fine _ _ _ => cases n
        | box x =>
          refine ⟨_, [.val (.tup (ds r)), .val (.int w), .val (.int wh), .val (Itm.box x).d, .val (.int (sa r)), .val (.int (sb r)), .val (.int (sc r)), .val (.int gap), .own (.lst ((plI (wI gap wh (pre ++ [.box x]) 0) 0).map prD)), .val (.int (wI gap wh (pre ++ [.box x]) 0).sum), .val (.int (whole gap (pre ++ [.box x]))), .val (.int (U (ab gap) wh (whole gap (pre ++ [.box x])))), .val (.int x), t13], rfl, .inl ?_, _, _, _, rfl⟩
          rw [wI_app, plI_app, wa]
          simp [BD38_0, ap, prD, Itm.d, gv, sg, Itm.n1]
        | spring a b c =>
          refine ⟨_, [.val (.tup (ds r)), .val (.int w), .val (.int wh), .val (Itm.spring a b c).d, .val (.int (sa r)), .val (.int (sb r)), .val (.int (sc r)), .val (.int gap), .own (.lst ((plI (wI gap wh (pre ++ [.spring a b c]) 0) 0).map prD)), .val (.int (wI gap wh (pre ++ [.spring a b c]) 0).sum), .val (.int (whole gap (pre ++ [.spring a b c]))), .val (.int (U (ab gap) wh (whole gap (pre ++ [.spring a b c])))), .val (.int (a + sg gap (U (ab gap) wh (whole gap pre + gv gap (.spring a b c)) - U (ab gap) wh (whole gap pre)))), .val (.int (U (ab gap) wh (whole gap (pre ++ [.spring a b c]))))], rfl, .inl ?_, _, _, _, rfl⟩
          rw [wI_app, plI_app, wa]
          by_cases hg : 0 ≤ gap
          · have hg' : ¬ (gap < 0) := by omega
            by_cases h0 : 0 < wh
            · have d := fun x : Int => bin_div (i := x) (j := wh) (divOk_of h0 (by omega))
              simp [BD38_0, ap, prD, Itm.d, gv, sg, Itm.n1, hg, h0, abe, m, d, U]
            · simp [BD38_0, ap, prD, Itm.d, gv, sg, Itm.n1, hg, h0, abe, m, U]
          · have sub : ∀ x y : Int, x - y = -(y - x) := fun x y => by omega
            have an := abn (by omega)
            by_cases h0 : 0 < wh
            · have d := fun x : Int => bin_div (i := x) (j := wh) (divOk_of h0 (by omega))
              simp [BD38_0, ap, prD, Itm.d, gv, sg, Itm.n1, hg, h0, abe, m, d, U]
              exact sub _ _
            · simp [BD38_0, ap, prD, Itm.d, gv, sg, Itm.n1, hg, h0, abe, m, U])
      ⟨.emp, .emp, .emp, by simp [plI, wI, whole, U0]⟩
    subst f2
    have f1' : evS Φ FR38_0 _ = _ := f1
    have fin : ∃ ρ', evSs Φ n38 [.val (.tup (ds r)), .val (.int w), .emp, .emp, .emp, .emp, .emp, .emp, .emp, .emp, .emp, .emp, .emp, .emp] = .ok (.rt (.val (.tup ((plI (wI gap wh r 0) 0).map prD))) ρ') ∧ outIos [false, false] ρ' = some [] := by
      refine ⟨[.val (.tup (ds r)), .val (.int w), .val (.int wh), t3, .val (.int (sa r)), .val (.int (sb r)), .val (.int (sc r)), .val (.int gap), .own (.lst ((plI (wI gap wh r 0) 0).map prD)), .val (.int (wI gap wh r 0).sum), .val (.int (whole gap r)), .val (.int (U (ab gap) wh (whole gap r))), t12, t13], ?_, rfl⟩
      have hs : binf .Sub (.int w) (.int (sa r)) = some (.val (.int gap)) := by rw [hgap]; rfl
      have hs1 : binf .Sub (.int (sa r)) (.int (sc r)) = some (.val (.int (sa r - sc r))) := rfl
      by_cases hg : 0 ≤ gap
      · have hw2 : wh = sb r := by rw [hwhd, hwh, ← hgap, if_pos hg]
        subst hw2
        simp [n38, h8, z', -bin_sub, hs, hs1, hg, f1']
      · have hw2 : wh = sc r := by rw [hwhd, hwh, ← hgap, if_neg hg]
        subst hw2
        simp [n38, h8, z', -bin_sub, hs, hs1, hg, f1']
    obtain ⟨ρ2, e, o⟩ := fin
    exact runD_rt (d := D38) (ds := [.tup (ds r), .int w]) rfl e o rfl
end W
namespace W
open PySem DL L2
variable {k : Nat} {Φ : Nat → Fn}
/-! ## what a paper of set lines asks -/
theorem U_mono {g wh a b : Int} (hg : 0 ≤ g) (h : a ≤ b) : U g wh a ≤ U g wh b := by
  unfold U
  split
  · rename_i h0
    rw [Int.fdiv_eq_ediv_of_nonneg _ (by omega), Int.fdiv_eq_ediv_of_nonneg _ (by omega)]
    exact Int.ediv_le_ediv h0 (Int.mul_le_mul_of_nonneg_left h hg)
  · exact Int.le_refl 0
theorem U_step {g wh a c : Int} (hg : 0 ≤ g) (hw : g ≤ wh) (hc : 0 ≤ c) : U g wh (a + c) - U g wh a ≤ c := by
  unfold U
  split
  · rename_i h0
    rw [Int.fdiv_eq_ediv_of_nonneg _ (by omega), Int.fdiv_eq_ediv_of_nonneg _ (by omega)]
    have e : g * (a + c) ≤ g * a + c * wh := by
      rw [Int.mul_add, Int.mul_comm c wh]
      have := Int.mul_le_mul_of_nonneg_right hw hc
      omega
    have h2 := Int.ediv_le_ediv h0 e
    rw [Int.add_mul_ediv_right _ _ (by omega)] at h2
    omega
  · omega
theorem U_whole {g wh : Int} (h0 : 0 < wh) : U g wh wh = g := by
  unfold U
  rw [if_pos h0]
  rw [Int.fdiv_eq_ediv_of_nonneg _ (by omega), Int.mul_ediv_cancel _ (by omega)]
theorem wI_sum {gap wh : Int} : ∀ {r : List Itm} {G : Int}, (wI gap wh r G).sum = (r.map Itm.n1).sum + sg gap (U (ab gap) wh (G + whole gap r) - U (ab gap) wh G)
  | [], G => by simp [wI, whole, sg]
  | it :: r, G => by
    show (it.n1 + _) + (wI gap wh r (G + gv gap it)).sum = _
    rw [wI_sum]
    have e : G + gv gap it + whole gap r = G + whole gap (it :: r) := by unfold whole; simp; omega
    rw [e, List.map_cons, List.sum_cons]
    unfold sg
    split <;> omega
/-- one item may have the width w -/
def lets : Itm → Int → Bool
  | .box x, w => decide (w = x)
  | .spring a b c, w => decide (a - c ≤ w) && (decide (w ≤ a) || decide (0 < b))
  | _, _ => false
theorem body21 {it : Itm} {w : Int} (n : it.isFine = false) : runD Φ D21 [it.d, .int w] = .ok (.val (.bl (lets it w)), []) := by
  have fin : evSs Φ n21 [.val it.d, .val (.int w)] = .ok (.rt (.val (.bl (lets it w))) [.val it.d, .val (.int w)]) := by
    cases it with
    | fine _ _ _ => cases n
    | box x => simp [n21, Itm.d, lets]
    | spring a b c =>
      by_cases h1 : a - c ≤ w
      · by_cases h2 : w ≤ a <;> simp [n21, Itm.d, lets, h1, h2]
      · simp [n21, Itm.d, lets, h1]
  exact runD_rt (d := D21) (ds := [it.d, .int w]) rfl fin rfl rfl
theorem lets_ok {r : List Itm} {w : Int} (hr : RowOk r) (hz : ¬ (w + sc r < sa r)) : ∀ (pre : List Itm) (it : Itm) (post : List Itm), r = pre ++ it :: post →
    lets it (it.n1 + sg (w - sa r) (U (ab (w - sa r)) (whole (w - sa r) r) (whole (w - sa r) pre + gv (w - sa r) it) - U (ab (w - sa r)) (whole (w - sa r) r) (whole (w - sa r) pre))) = true := by
  intro pre it post h
  have n := hr.row.nf it (by rw [h]; simp)
  have o := hr.ok it (by rw [h]; simp)
  obtain ⟨gap, hgap⟩ : ∃ gap, gap = w - sa r := ⟨_, rfl⟩
  have hwh : whole gap r = if 0 ≤ gap then sb r else sc r := whole_eq
  rw [← hgap]
  have ab0 : 0 ≤ ab gap := by unfold ab; split <;> omega
  cases it with
  | fine _ _ _ => cases n
  | box x => simp [lets, gv, sg, Itm.n1]
  | spring a b c =>
    obtain ⟨⟨a0, a1⟩, ⟨b0, b1⟩, ⟨c0, c1⟩⟩ := o
    by_cases hg : 0 ≤ gap
    · have e : gv gap (.spring a b c) = b := by simp [gv, hg]
      rw [e]
      have m := U_mono (g := ab gap) (wh := whole gap r) ab0 (show whole gap pre ≤ whole gap pre + b by omega)
      have nn : lets (.spring a b c) (Itm.n1 (.spring a b c) + sg gap (U (ab gap) (whole gap r) (whole gap pre + b) - U (ab gap) (whole gap r) (whole gap pre))) = true := by
        simp only [lets, Itm.n1, sg, if_pos hg, Bool.and_eq_true, Bool.or_eq_true, decide_eq_true_eq]
        refine ⟨by omega, ?_⟩
        by_cases hb : 0 < b
        · exact .inr hb
        · left
          have : b = 0 := by omega
          subst this
          rw [Int.add_zero]; omega
      exact nn
    · have e : gv gap (.spring a b c) = c := by simp [gv, hg]
      rw [e]
      have hw2 : whole gap r = sc r := by rw [hwh, if_neg hg]
      have abe : ab gap = -gap := if_pos (by omega)
      have st := U_step (g := ab gap) (wh := whole gap r) (a := whole gap pre) (c := c) ab0 (by rw [hw2, abe]; omega) c0
      have m := U_mono (g := ab gap) (wh := whole gap r) ab0 (show whole gap pre ≤ whole gap pre + c by omega)
      simp only [lets, Itm.n1, sg, if_neg hg, Bool.and_eq_true, Bool.or_eq_true, decide_eq_true_eq]
      exact ⟨by omega, .inl (by omega)⟩
theorem wl_sum {r : List Itm} {w : Int} (hr : RowOk r) (hz : ¬ (w + sc r < sa r)) : (wlist r w).sum = if w < sa r ∨ 0 < sb r then w else sa r := by
  unfold wlist
  rw [wI_sum, U0, Int.zero_add, Int.sub_zero]
  have hs : (r.map Itm.n1).sum = sa r := rfl
  rw [hs]
  obtain ⟨b1, b2, b3⟩ := hr.bnd
  have hwh : whole (w - sa r) r = if 0 ≤ w - sa r then sb r else sc r := whole_eq
  by_cases hg : 0 ≤ w - sa r
  · rw [if_pos hg] at hwh
    have abe : ab (w - sa r) = w - sa r := if_neg (by omega)
    rw [hwh, abe]
    unfold sg
    rw [if_pos hg]
    by_cases h0 : 0 < sb r
    · rw [U_whole h0, if_pos (.inr h0)]; omega
    · have : sb r = 0 := by omega
      rw [this, U0, if_neg (by omega)]; omega
  · rw [if_neg hg] at hwh
    have abe : ab (w - sa r) = -(w - sa r) := if_pos (by omega)
    rw [hwh, abe]
    unfold sg
    rw [if_neg hg, U_whole (by omega), if_pos (.inl (by omega))]
    omega
end W
namespace W
open PySem DL L2
variable {k : Nat} {Φ : Nat → Fn}
theorem body9 (h0 : ∀ i, Φ 0 [.int i] = .ok (.val (.bl true), [])) {w : Int} (hw : 1 ≤ w ∧ w ≤ 100000) : runD Φ D9 [.int w] = .ok (.val .non, []) := by
  have fin : evSs Φ n9 [.val (.int w)] = .ok (.nx [.val (.int w)]) := by simp [n9, h0, hw.1, hw.2]
  exact runD_nx (d := D9) (ds := [.int w]) rfl fin rfl
theorem body14 (h0 : ∀ i, Φ 0 [.int i] = .ok (.val (.bl true), [])) {g v : Int} (hg : 0 ≤ g ∧ g ≤ 12000000) (hv : 0 ≤ v ∧ v ≤ 12000000) : runD Φ D14 [.int g, .int v] = .ok (.val .non, []) := by
  have m : binf .Mult (.int 120) (.int 100000) = some (.val (.int 12000000)) := bin_mul (mulOk_l (by decide))
  have fin : evSs Φ n14 [.val (.int g), .val (.int v)] = .ok (.nx [.val (.int g), .val (.int v)]) := by simp [n14, h0, m, hg.1, hg.2, hv.1, hv.2]
  exact runD_nx (d := D14) (ds := [.int g, .int v]) rfl fin rfl
/-- the entries of a line's questions -/
structure Ent (Φ : Nat → Fn) (its : List Itm) (first : Int) (l : Nat) (w : Int) : Prop where
  c1 : Φ 1 [.tup (ds its)] = .ok (.val .non, [])
  c2 : Φ 7 [.tup (ds its), .int first, .int l] = .ok (.val .non, [])
  c3 : Φ 9 [.int w] = .ok (.val .non, [])
  c4 : Φ 6 [.tup (ds its), .int first, .int l] = .ok (.val (.lst (ds (lineI its first l))), [])
variable {its : List Itm} {first w : Int} {l : Nat}
theorem body11 {r : List Itm} (h1 : Φ 8 [.lst (ds r)] = .ok (.val (sumI r), [])) (h2 : Φ 12 [sumI r, .int w] = .ok (.val (badS (sa r) (sb r) (sc r) w), [])) : runD Φ D11 [.lst (ds r), .int w] = .ok (.val (badS (sa r) (sb r) (sc r) w), []) := by
  have fin : evSs Φ n11 [.val (.lst (ds r)), .val (.int w)] = .ok (.rt (.val (badS (sa r) (sb r) (sc r) w)) [.val (.lst (ds r)), .val (.int w)]) := by simp [n11, h1, h2]
  exact runD_rt (d := D11) (ds := [.lst (ds r), .int w]) rfl fin rfl rfl
theorem body13 (E : Ent Φ its first l w) {d : D} (h : Φ 11 [.lst (ds (lineI its first l)), .int w] = .ok (.val d, [])) : runD Φ D13 [.tup (ds its), .int first, .int l, .int w] = .ok (.val d, []) := by
  have fin : evSs Φ n13 [.val (.tup (ds its)), .val (.int first), .val (.int l), .val (.int w)] = .ok (.rt (.val d) [.val (.tup (ds its)), .val (.int first), .val (.int l), .val (.int w)]) := by simp [n13, E.c1, E.c2, E.c3, E.c4, h]
  exact runD_rt (d := D13) (ds := [.tup (ds its), .int first, .int l, .int w]) rfl fin rfl rfl
theorem body18 (E : Ent Φ its first l w) {d : D} (h : Φ 19 [.lst (ds (lineI its first l)), .int w] = .ok (.val d, [])) : runD Φ D18 [.tup (ds its), .int first, .int l, .int w] = .ok (.val d, []) := by
  have fin : evSs Φ n18 [.val (.tup (ds its)), .val (.int first), .val (.int l), .val (.int w)] = .ok (.rt (.val d) [.val (.tup (ds its)), .val (.int first), .val (.int l), .val (.int w)]) := by simp [n18, E.c1, E.c2, E.c3, E.c4, h]
  exact runD_rt (d := D18) (ds := [.tup (ds its), .int first, .int l, .int w]) rfl fin rfl rfl
theorem body23 (E : Ent Φ its first l w) {d : D} (h1 : Φ 8 [.lst (ds (lineI its first l))] = .ok (.val (sumI (lineI its first l)), [])) (h : Φ 24 [sumI (lineI its first l), .int w] = .ok (.val d, [])) : runD Φ D23 [.tup (ds its), .int first, .int l, .int w] = .ok (.val d, []) := by
  have fin : evSs Φ n23 [.val (.tup (ds its)), .val (.int first), .val (.int l), .val (.int w)] = .ok (.rt (.val d) [.val (.tup (ds its)), .val (.int first), .val (.int l), .val (.int w)]) := by simp [n23, E.c1, E.c2, E.c3, E.c4, h1, h]
  exact runD_rt (d := D23) (ds := [.tup (ds its), .int first, .int l, .int w]) rfl fin rfl rfl
def tightW (a b c w : Int) : D := if w + c < a then .str "wide" else if a < w then .str "loose" else if a = w then .str "full" else .str "tight"
theorem body22 (E : Ent Φ its first l w) (h1 : Φ 8 [.lst (ds (lineI its first l))] = .ok (.val (sumI (lineI its first l)), [])) : runD Φ D22 [.tup (ds its), .int first, .int l, .int w] = .ok (.val (tightW (sa (lineI its first l)) (sb (lineI its first l)) (sc (lineI its first l)) w), []) := by
  rw [sumI_eq] at h1
  generalize sa (lineI its first l) = a at h1 ⊢
  generalize sb (lineI its first l) = b at h1 ⊢
  generalize sc (lineI its first l) = c at h1 ⊢
  have fin : evSs Φ n22 [.val (.tup (ds its)), .val (.int first), .val (.int l), .val (.int w), .emp, .emp, .emp] = .ok (.rt (.val (tightW a b c w)) [.val (.tup (ds its)), .val (.int first), .val (.int l), .val (.int w), .val (.int a), .val (.int b), .val (.int c)]) := by
    by_cases z : w + c < a
    · simp [n22, E.c1, E.c2, E.c3, E.c4, h1, z, tightW]
    · by_cases z2 : a < w
      · simp [n22, E.c1, E.c2, E.c3, E.c4, h1, z, z2, tightW]
      · by_cases z3 : a = w
        · subst z3; simp [n22, E.c1, E.c2, E.c3, E.c4, h1, z, tightW]
        · simp [n22, E.c1, E.c2, E.c3, E.c4, h1, z, z2, z3, tightW]
  exact runD_rt (d := D22) (ds := [.tup (ds its), .int first, .int l, .int w]) rfl fin rfl rfl
theorem body15 {g v : Int} (h1 : Φ 14 [.int g, .int v] = .ok (.val .non, [])) (h2 : Φ 10 [.int g, .int v] = .ok (.val (.int (badI g v)), [])) : runD Φ D15 [.int g, .int v] = .ok (.val (.int (badI g v)), []) := by
  have fin : evSs Φ n15 [.val (.int g), .val (.int v)] = .ok (.rt (.val (.int (badI g v))) [.val (.int g), .val (.int v)]) := by simp [n15, h1, h2]
  exact runD_rt (d := D15) (ds := [.int g, .int v]) rfl fin rfl rfl
/-! accept_set -/
theorem plI_pairs {ps : List Int} {p : Int} (x : Int × Int) (h : x ∈ plI ps p) : ∃ a b, x = (a, b) := ⟨x.1, x.2, rfl⟩
theorem body20 (E : Ent Φ its first l w) (h0 : ∀ i, Φ 0 [.int i] = .ok (.val (.bl true), [])) {r : List Itm} (hr' : lineI its first l = r) (hr : RowOk r) (hz : ¬ (w + sc r < sa r)) (h1 : Φ 8 [.lst (ds r)] = .ok (.val (sumI r), []))
    (h21 : ∀ (it : Itm) (x : Int), it.isFine = false → Φ 21 [it.d, .int x] = .ok (.val (.bl (lets it x)), [])) :
    runD Φ D20 [.tup (ds its), .int first, .int l, .int w, .tup ((plI (wlist r w) 0).map prD)] = .ok (.val .non, []) := by
  have c4 := E.c4
  rw [hr'] at c4
  rw [sumI_eq] at h1
  have hl := hr.len
  have wl : (wlist r w).length = r.length := wI_len
  have pl : (plI (wlist r w) 0).length = r.length := by rw [plI_len, wl]
  obtain ⟨rows, hrows⟩ : ∃ rows, rows = plI (wlist r w) 0 := ⟨_, rfl⟩
  rw [← hrows] at pl ⊢
  obtain ⟨ρ', f1, t6, f2⟩ := for_ty (Φ := Φ) (t := .name 6 false) (k := .it) (src := [(.var 4)]) (b := BD20_1) (ρ := [.val (.tup (ds its)), .val (.int first), .val (.int l), .val (.int w), .val (.tup (rows.map prD)), .val (.lst (ds r)), .emp, .emp, .emp, .emp, .emp, .emp])
    rows prD (fun pre ρ => ∃ t6, ρ = [.val (.tup (ds its)), .val (.int first), .val (.int l), .val (.int w), .val (.tup (rows.map prD)), .val (.lst (ds r)), t6, .emp, .emp, .emp, .emp, .emp]) rfl src_itT
    (fun pre a post ρ h ⟨t6, hρ⟩ => by
      subst hρ
      obtain ⟨x, y⟩ := a
      have e := lc_ty0S (Φ := Φ) (vs := [11]) (t := .name 11 false) (k := .it) (src := [.var 6]) (elt := EL20_0) (ρ := [.val (.tup (ds its)), .val (.int first), .val (.int l), .val (.int w), .val (.tup (rows.map prD)), .val (.lst (ds r)), .val (prD (x, y)), .emp, .emp, .emp, .emp, .emp])
        [prD (x, y)] [x, y] D.int (fun _ => .bl true) rfl rfl rfl rfl (fun i hi => ⟨[.val (.tup (ds its)), .val (.int first), .val (.int l), .val (.int w), .val (.tup (rows.map prD)), .val (.lst (ds r)), .val (prD (x, y)), .emp, .emp, .emp, .emp, .val (.int i)], rfl, by simp [EL20_0, h0], rfl⟩) (by simp [Line])
      have e' : ev Φ LC20_0 _ = _ := e
      have al := opf_all (l := [true, true])
      simp only [List.map_cons, List.map_nil] at al e'
      refine ⟨_, [.val (.tup (ds its)), .val (.int first), .val (.int l), .val (.int w), .val (.tup (rows.map prD)), .val (.lst (ds r)), .val (prD (x, y)), .emp, .emp, .emp, .emp, .emp], rfl, .inl ?_, _, rfl⟩
      simp only [prD] at e' ⊢
      simp [BD20_1, e', al]) ⟨.emp, rfl⟩
  subst f2
  have f1' : evS Φ FR20_1 _ = _ := f1
  obtain ⟨ρ', f3, t6', t8, f4⟩ := for_ty (Φ := Φ) (t := .tup [.name 8 false, .name 6 false]) (k := .zip) (src := [.var 5, .var 4]) (b := BD20_2) (ρ := [.val (.tup (ds its)), .val (.int first), .val (.int l), .val (.int w), .val (.tup (rows.map prD)), .val (.lst (ds r)), t6, .val (.int 0), .emp, .emp, .emp, .emp])
    (ds := [.lst (ds r), .tup (rows.map prD)]) (ρ1 := [.val (.tup (ds its)), .val (.int first), .val (.int l), .val (.int w), .val (.tup (rows.map prD)), .val (.lst (ds r)), t6, .val (.int 0), .emp, .emp, .emp, .emp])
    (r.zip rows) (fun p => D.tup [p.1.d, prD p.2]) (fun pre ρ => ∃ t6 t8, ρ = [.val (.tup (ds its)), .val (.int first), .val (.int l), .val (.int w), .val (.tup (rows.map prD)), .val (.lst (ds r)), t6, .val (.int (wI (w - sa r) (whole (w - sa r) r) (pre.map (·.1)) 0).sum), t8, .emp, .emp, .emp]) rfl
    (by rw [zip_lt]; unfold W.ds; rw [zip_map])
    (fun pre a post ρ h ⟨t6, t8, hρ⟩ => by
      subst hρ
      obtain ⟨it, x, y⟩ := a
      have hfst : r = pre.map (·.1) ++ it :: post.map (·.1) := by
        have := congrArg (List.map (·.1)) h
        rw [List.map_fst_zip (by omega)] at this
        simpa using this
      have hsnd : rows = pre.map (·.2) ++ (x, y) :: post.map (·.2) := by
        have := congrArg (List.map (·.2)) h
        rw [List.map_snd_zip (by omega)] at this
        simpa using this
      have n := hr.row.nf it (by rw [hfst]; simp)
      have lo := lets_ok hr hz _ it _ hfst
      -- the pair at this place
      obtain ⟨gap, hgap⟩ : ∃ gap, gap = w - sa r := ⟨_, rfl⟩
      obtain ⟨wh, hwh⟩ : ∃ wh, wh = whole (w - sa r) r := ⟨_, rfl⟩
      have hro : rows = plI (wI gap wh r 0) 0 := by rw [hrows, hgap, hwh]; rfl
      rw [← hwh, ← hgap] at lo ⊢
      have key : ∀ (a : List Itm) (b : List Itm), plI (wI gap wh (a ++ it :: b) 0) 0 = plI (wI gap wh a 0) 0 ++ ((wI gap wh a 0).sum, it.n1 + sg gap (U (ab gap) wh (whole gap a + gv gap it) - U (ab gap) wh (whole gap a))) :: (plI (wI gap wh (a ++ it :: b) 0) 0).drop (a.length + 1) := by
        intro a b
        have wapp : ∀ (a b : List Itm) (G : Int), wI gap wh (a ++ b) G = wI gap wh a G ++ wI gap wh b (G + whole gap a) := by
          intro a
          induction a with
          | nil => intro b G; simp [wI, whole]
          | cons z a ih => intro b G; simp [wI, whole, ih, Int.add_assoc]
        have papp : ∀ (a b : List Int) (p : Int), plI (a ++ b) p = plI a p ++ plI b (p + a.sum) := by
          intro a
          induction a with
          | nil => intro b p; simp [plI]
          | cons z a ih => intro b p; simp [plI, ih, Int.add_assoc]
        have la : (plI (wI gap wh a 0) 0).length = a.length := by rw [plI_len, wI_len]
        rw [wapp, papp]
        simp only [wI, plI, Int.zero_add]
        congr 1
        congr 1
        rw [List.drop_append, la]
        simp [List.drop_of_length_le, la]
      have e2 := key (pre.map (·.1)) (post.map (·.1))
      rw [← hfst, ← hro] at e2
      have hp : (pre.map (·.2)).length = (plI (wI gap wh (pre.map (·.1)) 0) 0).length := by rw [plI_len, wI_len]; simp
      have e3 := List.append_inj (hsnd.symm.trans e2) hp
      have e4 := List.cons.inj e3.2
      have ex : x = (wI gap wh (pre.map (·.1)) 0).sum := congrArg Prod.fst e4.1
      have ey : y = it.n1 + sg gap (U (ab gap) wh (whole gap (pre.map (·.1)) + gv gap it) - U (ab gap) wh (whole gap (pre.map (·.1)))) := congrArg Prod.snd e4.1
      rw [← ey] at lo
      have h21' := h21 it y n
      rw [lo] at h21'
      have sm : (wI gap wh ((pre ++ [(it, (x, y))]).map (·.1)) 0).sum = x + y := by
        rw [List.map_append, List.map_cons, List.map_nil, wI_app, Int.zero_add, List.sum_append, ← ex, ey]; simp
      rw [← ex]
      refine ⟨[.val (.tup (ds its)), .val (.int first), .val (.int l), .val (.int w), .val (.tup (rows.map prD)), .val (.lst (ds r)), .val (prD (x, y)), .val (.int x), .val it.d, .emp, .emp, .emp], [.val (.tup (ds its)), .val (.int first), .val (.int l), .val (.int w), .val (.tup (rows.map prD)), .val (.lst (ds r)), .val (prD (x, y)), .val (.int (x + y)), .val it.d, .emp, .emp, .emp], by simp [prD], .inl ?_, _, _, by rw [sm]⟩
      simp only [prD]
      simp [BD20_2, h21']) ⟨t6, .emp, by simp [wI]⟩
  subst f4
  have f3' : evS Φ FR20_2 _ = _ := f3
  rw [List.map_fst_zip (by omega)] at f3'
  have sm := wl_sum hr hz
  unfold wlist at sm
  rw [sm] at f3'
  obtain ⟨b1, b2, b3⟩ := hr.bnd
  have c4' : (rows.map prD).length = (ds r).length := by rw [List.length_map, pl, ds_len]
  have fin : ∃ ρ', evSs Φ n20 [.val (.tup (ds its)), .val (.int first), .val (.int l), .val (.int w), .val (.tup (rows.map prD)), .emp, .emp, .emp, .emp, .emp, .emp, .emp] = .ok (.nx ρ') ∧ outIos [false, false, false, false, false] ρ' = some [] := by
    refine ⟨[.val (.tup (ds its)), .val (.int first), .val (.int l), .val (.int w), .val (.tup (rows.map prD)), .val (.lst (ds r)), .val (.int (sa r)), .val (.int (if w < sa r ∨ 0 < sb r then w else sa r)), t8, .val (.int (sb r)), .val (.int (sc r)), .emp], ?_, rfl⟩
    by_cases q : w < sa r ∨ 0 < sb r
    · rw [if_pos q] at f3' ⊢
      simp [n20, E.c1, E.c2, E.c3, c4, f1', f3', h1, pl, ds_len]
    · rw [if_neg q] at f3' ⊢
      have q1 : ¬ (w < sa r) := fun z => q (.inl z)
      have q2 : ¬ (0 < sb r) := fun z => q (.inr z)
      by_cases q3 : sa r = w
      · simp [n20, E.c1, E.c2, E.c3, c4, f1', f3', h1, pl, ds_len, q3]
      · simp [n20, E.c1, E.c2, E.c3, c4, f1', f3', h1, pl, ds_len, q1, q2, q3]
  obtain ⟨ρ2, e, o⟩ := fin
  exact runD_nx (d := D20) (ds := [.tup (ds its), .int first, .int l, .int w, .tup (rows.map prD)]) rfl e o
end W
namespace W
open PySem DL L2
variable {k : Nat} {Φ : Nat → Fn}
/-- what the law leans on -/
structure Lib2 (Φ : Nat → Fn) : Prop where
  dw : Draws Φ
  st : ∀ l : List Int, ∃ d', Φ 25 [.rol (l.map .int)] = .ok (.own d', []) ∧ IsSt d'
  same : ∀ d, reprOk d = true → Φ 28 [d, d] = .ok (.val (.bl true), [])
  items : ∀ st (most : Int), IsSt st → 0 < most → most ≤ 120 → ∃ its st', Φ 29 [st, .int most] = .ok (.val (.tup (ds its)), [st']) ∧ Good its ∧ IsSt st'
  plc : ∀ its : List Itm, its.length ≤ 1000 → Φ 31 [.tup (ds its)] = .ok (.val (.lst (nums ((List.range its.length).filter (may its)))), [])
  line : ∀ (its : List Itm) (first : Int) (l : Nat), its.length ≤ 1000 → -1 ≤ first → first < its.length → l < its.length → Φ 33 [.tup (ds its), .int first, .int l] = .ok (.val (.tup (ds (lineI its first l))), [])
  sums : ∀ r : List Itm, Row r → Φ 34 [.tup (ds r)] = .ok (.val (sumI r), [])
  bad : ∀ (its : List Itm) (first w : Int) (l : Nat), Good its → Brk its first l → RowOk (lineI its first l) → 1 ≤ w ∧ w ≤ 100000 → Φ 13 [.tup (ds its), .int first, .int l, .int w] = .ok (.val (badS (sa (lineI its first l)) (sb (lineI its first l)) (sc (lineI its first l)) w), [])
  cls : ∀ (its : List Itm) (first w : Int) (l : Nat), Good its → Brk its first l → RowOk (lineI its first l) → 1 ≤ w ∧ w ≤ 100000 → Φ 23 [.tup (ds its), .int first, .int l, .int w] = .ok (.val (clsS (sa (lineI its first l)) (sb (lineI its first l)) (sc (lineI its first l)) w), [])
  setl : ∀ (its : List Itm) (first w : Int) (l : Nat), Good its → Brk its first l → RowOk (lineI its first l) → 1 ≤ w ∧ w ≤ 100000 → Φ 18 [.tup (ds its), .int first, .int l, .int w] = .ok (.val (dueS (lineI its first l) w), [])
  tight : ∀ (its : List Itm) (first w : Int) (l : Nat), Good its → Brk its first l → RowOk (lineI its first l) → 1 ≤ w ∧ w ≤ 100000 → Φ 22 [.tup (ds its), .int first, .int l, .int w] = .ok (.val (tightW (sa (lineI its first l)) (sb (lineI its first l)) (sc (lineI its first l)) w), [])
  acc : ∀ (its : List Itm) (first w : Int) (l : Nat), Good its → Brk its first l → RowOk (lineI its first l) → 1 ≤ w ∧ w ≤ 100000 → ¬ (w + sc (lineI its first l) < sa (lineI its first l)) → Φ 20 [.tup (ds its), .int first, .int l, .int w, .tup ((plI (wlist (lineI its first l) w) 0).map prD)] = .ok (.val .non, [])
  lbad : ∀ (a b c w : Int), Sm a b c w → Φ 36 [.tup [.int a, .int b, .int c], .int w] = .ok (.val (badS a b c w), [])
  lcls : ∀ (a b c w : Int), Φ 37 [.tup [.int a, .int b, .int c], .int w] = .ok (.val (clsS a b c w), [])
  lset : ∀ (r : List Itm) (w : Int), RowOk r → 1 ≤ w ∧ w ≤ 100000 → Φ 38 [.tup (ds r), .int w] = .ok (.val (dueS r w), [])
  bof : ∀ g v : Int, 0 ≤ g ∧ g ≤ 12000000 → 0 ≤ v ∧ v ≤ 12000000 → Φ 15 [.int g, .int v] = .ok (.val (.int (badI g v)), [])
  lb : ∀ g v : Int, 0 ≤ g ∧ g ≤ 12000000 → 0 ≤ v ∧ v ≤ 12000000 → Φ 35 [.int g, .int v] = .ok (.val (.int (badI g v)), [])
theorem line_ok {its : List Itm} (g : Good its) (first : Int) (l : Nat) : RowOk (lineI its first l) where
  row := line_row g.len
  ok := line_all g.all
  len := by
    have he : (endI its[l]?).length ≤ 1 := by
      unfold endI
      split
      · split <;> simp
      · simp
    unfold lineI
    rw [List.length_append]
    have := @mid_len its (beg its first) l
    have := g.len
    omega
theorem fb {g v : Int} (hg : 0 ≤ g ∧ g ≤ 1000000000) (hv : 0 ≤ v ∧ v ≤ 1000000000) : phi tab (k+1) 10 [.int g, .int v] = .ok (.val (.int (badI g v)), []) := by
  rw [P10]; exact body10 hg hv
theorem flb {g v : Int} (hg : 0 ≤ g ∧ g ≤ 1000000000) (hv : 0 ≤ v ∧ v ≤ 1000000000) : phi tab (k+1) 35 [.int g, .int v] = .ok (.val (.int (badI g v)), []) := by
  rw [P35]; exact body35 hg hv
theorem fsums {r : List Itm} (hr : Row r) : phi tab (k+1) 8 [.lst (ds r)] = .ok (.val (sumI r), []) := by
  rw [p8]; exact body8 hr (.inl rfl)
theorem Sm.of {r : List Itm} {w : Int} (hr : RowOk r) (hw : 1 ≤ w ∧ w ≤ 100000) : Sm (sa r) (sb r) (sc r) w := by
  obtain ⟨b1, b2, b3⟩ := hr.bnd
  exact ⟨b1, b2, b3, hw⟩
theorem fbs {r : List Itm} {w : Int} (hr : RowOk r) (hw : 1 ≤ w ∧ w ≤ 100000) : phi tab (k+2) 12 [sumI r, .int w] = .ok (.val (badS (sa r) (sb r) (sc r) w), []) := by
  rw [P12, sumI_eq]; exact body12 (.of hr hw) fun g v h1 h2 => fb h1 h2
theorem fent {its : List Itm} {first w : Int} {l : Nat} (g : Good its) (h : Brk its first l) (hw : 1 ≤ w ∧ w ≤ 100000) : Ent (phi tab (k+3)) its first l w where
  c1 := f1 g
  c2 := f7 (k := k+1) h
  c3 := by
    show phi tab ((k+2)+1) 9 _ = _
    rw [P9]; exact body9 (fun i => f0_int) hw
  c4 := f6 (k := k) (by have := g.len; omega) h.ge (by have := h.lo; have := h.lt; omega) h.lt
theorem fset {r : List Itm} {w : Int} (hr : RowOk r) (hw : 1 ≤ w ∧ w ≤ 100000) : phi tab (k+3) 19 [.lst (ds r), .int w] = .ok (.val (dueS r w), []) := by
  rw [P19]
  refine body19 hr ?_
  rw [P17]
  refine body17 hr hw (fsums hr.row) fun g gs h1 h2 h3 => ?_
  rw [P16]
  exact body16 h1 h2 h3
theorem lib2 : Lib2 (phi tab (k+4)) where
  dw := draws_phi (k := k+2)
  st := fun l => f25 (k := k+3)
  same := fun d h => f28 (k := k+3) h
  items := fun st most h1 h2 h3 => f29 (k := k+1) h1 h2 h3
  plc := fun its h => f31 (k := k+3) h
  line := fun its first l h1 h2 h3 h4 => f33 (k := k+1) h1 h2 h3 h4
  sums := fun r h => f34 (k := k+3) h
  bad := fun its first w l g h hr hw => by
    show phi tab ((k+3)+1) 13 _ = _
    rw [P13]
    refine body13 (fent g h hw) ?_
    show phi tab ((k+2)+1) 11 _ = _
    rw [P11]
    exact body11 (fsums hr.row) (fbs hr hw)
  cls := fun its first w l g h hr hw => by
    show phi tab ((k+3)+1) 23 _ = _
    rw [P23]
    refine body23 (fent g h hw) (fsums (k := k+2) hr.row) ?_
    show phi tab ((k+2)+1) 24 _ = _
    rw [P24, sumI_eq]
    exact body24
  setl := fun its first w l g h hr hw => by
    show phi tab ((k+3)+1) 18 _ = _
    rw [P18]
    exact body18 (fent g h hw) (fset hr hw)
  tight := fun its first w l g h hr hw => by
    show phi tab ((k+3)+1) 22 _ = _
    rw [P22]
    exact body22 (fent g h hw) (fsums (k := k+2) hr.row)
  acc := fun its first w l g h hr hw hz => by
    show phi tab ((k+3)+1) 20 _ = _
    rw [P20]
    refine body20 (fent g h hw) (fun i => f0_int (k := k+2)) rfl hr hz (fsums (k := k+2) hr.row) fun it x n => ?_
    show phi tab ((k+2)+1) 21 _ = _
    rw [P21]
    exact body21 n
  lbad := fun a b c w h => by
    show phi tab ((k+3)+1) 36 _ = _
    rw [P36]
    exact body36 h fun g v h1 h2 => flb h1 h2
  lcls := fun a b c w => by
    show phi tab ((k+3)+1) 37 _ = _
    rw [P37]
    exact body37
  lset := fun r w hr hw => by
    show phi tab ((k+3)+1) 38 _ = _
    rw [P38]
    exact body38 hr hw (f34 (k := k+2) hr.row)
  bof := fun g v hg hv => by
    show phi tab ((k+3)+1) 15 _ = _
    rw [P15]
    refine body15 ?_ (fb (k := k+2) (by omega) (by omega))
    show phi tab ((k+2)+1) 14 _ = _
    rw [P14]
    exact body14 (fun i => f0_int) hg hv
  lb := fun g v hg hv => flb (k := k+3) (by omega) (by omega)
end W
namespace W
open PySem DL L2
variable {k : Nat} {Φ : Nat → Fn}
def EWD : E := (.op .max [(.mk .lst [(.lit (.int 1)), (.op .min [(.mk .lst [(.lit (.int 100000)), (.call 27 [true, false] [(.var 1), (.op (.bin .Add) [(.op (.bin .Add) [(.var 10), (.var 10)]), (.mk .lst [(.call 26 [true, false] [(.var 1), (.lit (.int 100001))])])])])])])])])
theorem width_ev (dw : Draws Φ) {st : D} (hs : IsSt st) {nr : List D} (hn : nr.length = 9) (hi : ∀ x ∈ nr, ∃ i, x = .int i) {s0 s2 s3 s4 s5 s6 s7 s8 s9 s11 s12 s13 s14 s15 s16 s17 s18 : Slot} :
    ∃ w st', ev Φ EWD [s0, .own st, s2, s3, s4, s5, s6, s7, s8, s9, .val (.lst nr), s11, s12, s13, s14, s15, s16, s17, s18] = .ok (.val (.int w), [s0, .own st', s2, s3, s4, s5, s6, s7, s8, s9, .val (.lst nr), s11, s12, s13, s14, s15, s16, s17, s18]) ∧ IsSt st' ∧ 1 ≤ w ∧ w ≤ 100000 := by
  obtain ⟨v, st1, e1, lo, hi1, hs1⟩ := dw.dr st 100001 (by decide) (by decide) hs
  have a1 := bin_apL (xs := nr) (ys := nr) (by omega)
  have a2 := bin_apL (xs := nr ++ nr) (ys := [.int v]) (by simp; omega)
  obtain ⟨x, st2, e2, hx, hs2⟩ := dw.pk st1 (nr ++ nr ++ [.int v]) (by simp) (by simp; omega) hs1
  obtain ⟨i, rfl⟩ : ∃ i, x = .int i := by
    rcases List.mem_append.mp hx with h | h
    · rcases List.mem_append.mp h with h | h
      · exact hi x h
      · exact hi x h
    · exact ⟨v, List.mem_singleton.mp h⟩
  refine ⟨if (if i < 100000 then i else 100000) > 1 then (if i < 100000 then i else 100000) else 1, st2, ?_, hs2, ?_, ?_⟩
  · simp only [List.append_assoc] at a2 e2
    simp [EWD, e1, a1, a2, e2]
  · split <;> omega
  · split
    · split <;> omega
    · omega
theorem firsts {bs : List Nat} (hb : bs.length ≤ 200) {n : Nat} {s0 s1 s2 s3 s5 s7 s8 s9 s10 s11 s12 s13 s14 s15 s16 s17 : Slot} :
    ev Φ LC39_0 [s0, s1, s2, s3, .val (.lst (nums bs)), s5, .val (.int n), s7, s8, s9, s10, s11, s12, s13, s14, s15, s16, s17, .emp] = .ok (.own (.lst (nums (bs.filter fun m => decide (m < n)))), [s0, s1, s2, s3, .val (.lst (nums bs)), s5, .val (.int n), s7, s8, s9, s10, s11, s12, s13, s14, s15, s16, s17, .emp]) := by
  refine lc_tyS [.lst (nums bs)] bs (fun m => D.int (m : Nat)) (fun m => decide (m < n)) _ rfl rfl rfl rfl (fun m hm => ?_) (by show _ ≤ 16777216; omega)
  refine ⟨[s0, s1, s2, s3, .val (.lst (nums bs)), s5, .val (.int n), s7, s8, s9, s10, s11, s12, s13, s14, s15, s16, s17, .val (.int m)], rfl, ?_, fun _ => rfl, rfl⟩
  by_cases h : m < n <;> simp [IF39_0, h]
theorem pl_last {ws : List Int} (h : ws ≠ []) : ∃ a b, atI ((plI ws 0).map prD) (-1) = some (.tup [.int a, .int b]) ∧ a + b = ws.sum := by
  obtain ⟨r, x, rfl⟩ : ∃ r x, ws = r ++ [x] := ⟨ws.dropLast, ws.getLast h, (List.dropLast_concat_getLast h).symm⟩
  refine ⟨r.sum, x, ?_, by simp⟩
  rw [plI_app, List.map_append]
  have := atI_last ((plI r 0).map prD) (prD (0 + r.sum, x))
  simpa [prD] using this
theorem nice_prs {ps : List (Int × Int)} (h : ∀ p ∈ ps, (-1000000000000000000 ≤ p.1 ∧ p.1 ≤ 1000000000000000000) ∧ (-1000000000000000000 ≤ p.2 ∧ p.2 ≤ 1000000000000000000)) : ∀ d ∈ ps.map prD, NiceD d 1 50 := by
  intro d hd
  obtain ⟨p, hp, rfl⟩ := List.mem_map.mp hd
  obtain ⟨⟨a1, a2⟩, b1, b2⟩ := h p hp
  refine (niceD_tup (h := 0) (w := 21) (n := 2) (xs := [.int p.1, .int p.2]) ?_ (by simp)).mono (by omega) (by omega)
  intro x hx
  simp at hx
  rcases hx with rfl | rfl
  · exact niceD_int a1 a2
  · exact niceD_int b1 b2
theorem U_bnd {g wh G : Int} (hg : 0 ≤ g ∧ g ≤ 1000000000) (h0 : 0 ≤ G) (h1 : G ≤ wh) : 0 ≤ U g wh G ∧ U g wh G ≤ 1000000000 := by
  have a := U_mono (g := g) (wh := wh) hg.1 h0
  have b := U_mono (g := g) (wh := wh) hg.1 h1
  rw [U0] at a
  by_cases hw : 0 < wh
  · rw [U_whole hw] at b; omega
  · have : wh = 0 := by omega
    subst this
    rw [U0] at b; omega
theorem gv_nn {gap : Int} {it : Itm} (o : it.ok) : 0 ≤ gv gap it := by
  cases it with
  | spring a b c =>
    obtain ⟨_, ⟨b0, _⟩, ⟨c0, _⟩⟩ := o
    simp only [gv]; split <;> omega
  | _ => simp [gv]
theorem whole_nn {gap : Int} {r : List Itm} (o : ∀ it ∈ r, it.ok) : 0 ≤ whole gap r := by
  unfold whole
  induction r with
  | nil => simp
  | cons it r ih =>
    rw [List.map_cons, List.sum_cons]
    have := gv_nn (gap := gap) (o it List.mem_cons_self)
    have := ih fun x hx => o x (List.mem_cons_of_mem _ hx)
    omega
theorem wI_bound {gap wh : Int} (hg : 0 ≤ ab gap ∧ ab gap ≤ 1000000000) : ∀ {r : List Itm} {G : Int}, (∀ it ∈ r, it.ok ∧ it.isFine = false) → 0 ≤ G → G + whole gap r ≤ wh → ∀ x ∈ wI gap wh r G, -1000000000 ≤ x ∧ x ≤ 1000100000
  | [], _, _, _, _, x, hx => by simp [wI] at hx
  | it :: r, G, ho, h0, h1, x, hx => by
    obtain ⟨o, n⟩ := ho it List.mem_cons_self
    have ho' := fun y hy => ho y (List.mem_cons_of_mem _ hy)
    have hw : whole gap (it :: r) = gv gap it + whole gap r := by unfold whole; simp
    have hgv := gv_nn (gap := gap) o
    have hr := whole_nn (gap := gap) (r := r) fun y hy => (ho' y hy).1
    rw [hw] at h1
    rcases List.mem_cons.mp (show x ∈ _ :: wI gap wh r (G + gv gap it) from hx) with rfl | hx
    · have u1 := U_bnd (G := G) (wh := wh) hg h0 (by omega)
      have u2 := U_bnd (G := G + gv gap it) hg (by omega) (show G + gv gap it ≤ wh by omega)
      have mo := U_mono (g := ab gap) (wh := wh) hg.1 (show G ≤ G + gv gap it by omega)
      have n1 : 0 ≤ it.n1 ∧ it.n1 ≤ 100000 := by
        cases it with
        | fine _ _ _ => cases n
        | box w => exact o
        | spring a b c => exact o.1
      unfold sg
      split <;> omega
    · exact wI_bound hg ho' (by omega) (by omega) x hx
theorem plI_bound : ∀ {ws : List Int} {p : Int} {b : Nat}, ws.length ≤ b → (∀ x ∈ ws, -1000000000 ≤ x ∧ x ≤ 1000100000) → ∀ y ∈ plI ws p, (p - 1000100000 * b ≤ y.1 ∧ y.1 ≤ p + 1000100000 * b) ∧ (-1000000000 ≤ y.2 ∧ y.2 ≤ 1000100000)
  | [], _, _, _, _, y, hy => by simp [plI] at hy
  | w :: ws, p, b, hb, h, y, hy => by
    have hw := h w List.mem_cons_self
    rw [List.length_cons] at hb
    rcases List.mem_cons.mp (show y ∈ (p, w) :: plI ws (p + w) from hy) with rfl | hy
    · exact ⟨⟨by omega, by omega⟩, hw.1, hw.2⟩
    · have := plI_bound (b := b - 1) (by omega) (fun x hx => h x (List.mem_cons_of_mem _ hx)) y hy
      refine ⟨⟨?_, ?_⟩, this.2⟩
      · have := this.1.1; omega
      · have := this.1.2; omega
theorem nice_due {r : List Itm} {w : Int} (hr : RowOk r) (hw : 1 ≤ w ∧ w ≤ 100000) : NiceD (dueS r w) 2 20000 := by
  unfold dueS
  split
  · exact niceD_non.mono (by omega) (by omega)
  · rename_i hz
    obtain ⟨b1, b2, b3⟩ := hr.bnd
    have hl := hr.len
    have gb : 0 ≤ ab (w - sa r) ∧ ab (w - sa r) ≤ 1000000000 := by unfold ab; split <;> omega
    have wb := wI_bound (gap := w - sa r) (wh := whole (w - sa r) r) gb (r := r) (G := 0) (fun it hit => ⟨hr.ok it hit, hr.row.nf it hit⟩) (Int.le_refl 0) (by omega)
    have pb := plI_bound (ws := wlist r w) (p := 0) (b := 200) (by unfold wlist; rw [wI_len]; omega) wb
    refine (niceD_tup (h := 1) (w := 50) (n := 200) (nice_prs fun p hp => ?_) (by rw [List.length_map, plI_len]; unfold wlist; rw [wI_len]; omega)).mono (by omega) (by omega)
    have := pb p hp
    omega
theorem nice_bad {a b c w : Int} (h : Sm a b c w) : NiceD (badS a b c w) 0 21 := by
  have bi : ∀ g v : Int, 0 ≤ g → 0 ≤ v → 0 ≤ badI g v ∧ badI g v ≤ 10000 := fun g v hg hv => by
    unfold badI
    split
    · omega
    · split
      · omega
      · have : 0 ≤ (100 * g * g * g).fdiv (v * v * v) := Int.fdiv_nonneg (Int.mul_nonneg (Int.mul_nonneg (by omega) hg) hg) (Int.mul_nonneg (Int.mul_nonneg hv hv) hv)
        split <;> omega
  obtain ⟨h1, h2, h3, h4⟩ := h
  unfold badS
  split
  · exact niceD_non.mono (by omega) (by omega)
  · split
    · have := bi (w - a) b (by omega) (by omega)
      exact niceD_int (by omega) (by omega)
    · have := bi (a - w) c (by omega) (by omega)
      exact niceD_int (by omega) (by omega)
theorem nice_cls {a b c w : Int} : NiceD (clsS a b c w) 0 21 := by
  unfold clsS
  split
  · exact niceD_non.mono (by omega) (by omega)
  · repeat' split
    all_goals exact niceD_int (by decide) (by decide)
theorem repr_told {r : List Itm} {w : Int} (hr : RowOk r) (hw : 1 ≤ w ∧ w ≤ 100000) : reprOk (.lst [badS (sa r) (sb r) (sc r) w, clsS (sa r) (sb r) (sc r) w, dueS r w]) = true := by
  refine (niceD_lst (h := 2) (w := 20000) (n := 3) (fun d hd => ?_) (by simp)).ok (by omega) (by omega)
  simp at hd
  rcases hd with rfl | rfl | rfl
  · exact (nice_bad (.of hr hw)).mono (by omega) (by omega)
  · exact nice_cls.mono (by omega) (by omega)
  · exact nice_due hr hw
theorem repr_word {a b c w : Int} : reprOk (tightW a b c w) = true := by
  have h1 : PyData.strOk "wide" = true := by decide +kernel
  have h2 : PyData.strOk "loose" = true := by decide +kernel
  have h3 : PyData.strOk "full" = true := by decide +kernel
  have h4 : PyData.strOk "tight" = true := by decide +kernel
  unfold tightW
  split
  · exact (niceD_str h1).ok (by omega) (by decide)
  · split
    · exact (niceD_str h2).ok (by omega) (by decide)
    · split
      · exact (niceD_str h3).ok (by omega) (by decide)
      · exact (niceD_str h4).ok (by omega) (by decide)
end W
namespace W
open PySem DL L2
variable {k : Nat} {Φ : Nat → Fn}
theorem end_eq {r : List Itm} {w : Int} (hr : RowOk r) (hz : ¬ (w + sc r < sa r)) : (wlist r w = [] ∧ (if w < sa r ∨ 0 < sb r then w else sa r) = 0) ∨ ∃ a b, atI ((plI (wlist r w) 0).map prD) (-1) = some (.tup [.int a, .int b]) ∧ a + b = (if w < sa r ∨ 0 < sb r then w else sa r) ∧ (plI (wlist r w) 0).map prD ≠ [] := by
  have sm := wl_sum hr hz
  by_cases h : wlist r w = []
  · left
    rw [h] at sm
    exact ⟨h, by rw [← sm]; rfl⟩
  · right
    obtain ⟨a, b, e1, e2⟩ := pl_last h
    refine ⟨a, b, e1, by rw [e2, sm], fun z => h ?_⟩
    have := congrArg List.length z
    rw [List.length_map, plI_len] at this
    exact List.eq_nil_of_length_eq_zero this
theorem turn1 (L : Lib2 Φ) {its : List Itm} (g : Good its) {st : D} (hs : IsSt st) {bs : List Nat} (hbs : bs = (List.range its.length).filter (may its)) {s0 s2 s5 s6 s7 s8 s9 s10 s11 s12 s13 s14 s15 s16 s17 : Slot} :
    ∃ st' t6 t7 t8 t9 t10 t11 t12 t13 t14 t17, evSs Φ BD39_1 [s0, .own st, s2, .val (.tup (ds its)), .val (.lst (nums bs)), s5, s6, s7, s8, s9, s10, s11, s12, s13, s14, s15, s16, s17, .emp] =
      .ok (.nx [s0, .own st', s2, .val (.tup (ds its)), .val (.lst (nums bs)), s5, t6, t7, t8, t9, t10, t11, t12, t13, t14, s15, s16, t17, .emp]) ∧ IsSt st' := by
  have dw := L.dw
  have gl := g.len
  have hbl : bs.length ≤ 120 := by
    rw [hbs]
    have := (List.filter_sublist (l := List.range its.length) (p := may its)).length_le
    rw [List.length_range] at this; omega
  have hbm : ∀ n ∈ bs, n < its.length ∧ may its n = true := fun n hn => by
    rw [hbs] at hn
    have := List.mem_filter.mp hn
    exact ⟨List.mem_range.mp this.1, this.2⟩
  have hb0 : nums bs ≠ [] := by
    obtain ⟨r, w, m, hr⟩ := g.last
    have hlast : its[r.length]? = some (.fine (-10000) w m) := by rw [hr]; simp
    have hm : r.length ∈ bs := by
      rw [hbs]
      refine List.mem_filter.mpr ⟨List.mem_range.mpr (by rw [hr]; simp), ?_⟩
      unfold may; rw [hlast]; rfl
    intro z
    have : bs = [] := by simpa [nums] using z
    rw [this] at hm; cases hm
  obtain ⟨x, st1, e1, hx, hs1⟩ := dw.pk st (nums bs) hb0 (by simp [nums]; omega) hs
  obtain ⟨l, hl, rfl⟩ := mem_nums hx
  obtain ⟨hl1, hl2⟩ := hbm l hl
  have ef := firsts (Φ := Φ) (bs := bs) (by omega) (n := l) (s0 := s0) (s1 := .own st1) (s2 := s2) (s3 := .val (.tup (ds its))) (s5 := s5) (s7 := s7) (s8 := s8) (s9 := s9) (s10 := s10) (s11 := s11) (s12 := s12) (s13 := s13) (s14 := s14) (s15 := s15) (s16 := s16) (s17 := s17)
  obtain ⟨fs, hfs⟩ : ∃ fs, fs = bs.filter fun m => decide (m < l) := ⟨_, rfl⟩
  rw [← hfs] at ef
  have fl : fs.length ≤ bs.length := by rw [hfs]; exact (List.filter_sublist).length_le
  have ap := bin_apL (xs := [.int (-1)]) (ys := nums fs) (by simp [nums]; omega)
  obtain ⟨y, st2, e2, hy, hs2⟩ := dw.pk st1 (.int (-1) :: nums fs) (by simp) (by simp [nums]; omega) hs1
  obtain ⟨first, rfl, hb⟩ : ∃ first : Int, y = .int first ∧ Brk its first l := by
    rcases List.mem_cons.mp hy with rfl | h
    · exact ⟨-1, rfl, hl1, hl2, by omega, .inl rfl⟩
    · obtain ⟨n, hn, rfl⟩ := mem_nums h
      rw [hfs] at hn
      obtain ⟨m1, m2⟩ := List.mem_filter.mp hn
      have m2 := of_decide_eq_true m2
      exact ⟨n, rfl, hl1, hl2, by omega, .inr ⟨n, rfl, (hbm n m1).2⟩⟩
  have e3 := L.line its first l (by omega) hb.ge (by have := hb.lo; omega) hl1
  have ro := line_ok g first l
  obtain ⟨r, hr⟩ : ∃ r, r = lineI its first l := ⟨_, rfl⟩
  have e4 := L.sums _ ro.row
  rw [sumI_eq] at e4
  have dv := fun x : Int => bin_div (i := x) (j := 2) (divOk_of (by decide) (by decide))
  have mu := fun x : Int => bin_mul (i := 2) (j := x) (mulOk_l (by decide))
  obtain ⟨nr, hnr⟩ : ∃ nr : List D, nr = [.int (sa r), .int (sa r + 1), .int (sa r - 1), .int (sa r - sc r), .int (sa r - sc r - 1), .int (sa r + sb r), .int (sa r + (sb r).fdiv 2), .int (sa r - (sc r).fdiv 2), .int (sa r + 2 * sb r)] := ⟨_, rfl⟩
  obtain ⟨w, st3, e5, hs3, hw⟩ := width_ev (Φ := Φ) dw hs2 (nr := nr) (by rw [hnr]; rfl) (by rw [hnr]; simp) (s0 := s0) (s2 := s2) (s3 := .val (.tup (ds its))) (s4 := .val (.lst (nums bs))) (s5 := s5) (s6 := .val (.int l)) (s7 := .val (.int first)) (s8 := .val (.tup (ds r))) (s9 := .val (.tup [.int (sa r), .int (sb r), .int (sc r)])) (s11 := s11) (s12 := s12) (s13 := s13) (s14 := s14) (s15 := s15) (s16 := s16) (s17 := s17) (s18 := .emp)
  unfold EWD at e5
  rw [hnr] at e5
  have f1 := L.bad its first w l g hb ro hw
  have f2 := L.cls its first w l g hb ro hw
  have f3 := L.setl its first w l g hb ro hw
  have f4 := L.tight its first w l g hb ro hw
  have f5 := L.acc its first w l g hb ro hw
  have f6 := L.lset _ w ro hw
  have f7 := L.lbad _ _ _ _ (Sm.of ro hw)
  have f8 := L.lcls (sa r) (sb r) (sc r) w
  have f9 := L.same _ (repr_told ro hw)
  have f10 := L.same _ (repr_word (a := sa r) (b := sb r) (c := sc r) (w := w))
  have ee := end_eq ro (w := w)
  rw [← hr] at e3 e4 f1 f2 f3 f4 f5 f6 f7 f9 ee ro
  have dft : ∀ d : D, opf .tru [d] = DL.b1 (truth d) := fun _ => Eq.trans rfl rfl
  by_cases hz : w + sc r < sa r
  · have d1 : dueS r w = .non := if_pos hz
    have d2 : tightW (sa r) (sb r) (sc r) w = .str "wide" := if_pos hz
    rw [d1] at f3 f6 f9
    rw [d2] at f4 f10
    refine ⟨st3, .val (.int l), .val (.int first), .val (.tup (ds r)), .val (.tup [.int (sa r), .int (sb r), .int (sc r)]), .val (.lst nr), .val (.int w), .val (.lst [badS (sa r) (sb r) (sc r) w, clsS (sa r) (sb r) (sc r) w, .non]), .val .non, .val (.str "wide"), s17, ?_, hs3⟩
    rw [hnr]
    simp [BD39_1, e1, ef, ap, e2, e3, e4, dv, mu, ↓e5, f1, f2, f3, f4, f6, f7, f8, f9, f10]
  · have d1 : dueS r w = .tup ((plI (wlist r w) 0).map prD) := if_neg hz
    have f5 := f5 hz
    rw [d1] at f3 f6 f9
    obtain ⟨wd, hwd⟩ : ∃ wd, wd = tightW (sa r) (sb r) (sc r) w := ⟨_, rfl⟩
    rw [← hwd] at f4 f10
    obtain ⟨due, hdue⟩ : ∃ due, due = (plI (wlist r w) 0).map prD := ⟨_, rfl⟩
    rw [← hdue] at f3 f5 f6 f9 ee
    obtain ⟨en, hen⟩ : ∃ en : Int, en = if w < sa r ∨ 0 < sb r then w else sa r := ⟨_, rfl⟩
    rw [← hen] at ee
    refine ⟨st3, .val (.int l), .val (.int first), .val (.tup (ds r)), .val (.tup [.int (sa r), .int (sb r), .int (sc r)]), .val (.lst nr), .val (.int w), .val (.lst [badS (sa r) (sb r) (sc r) w, clsS (sa r) (sb r) (sc r) w, .tup due]), .val (.tup due), .val wd, .val (.int en), ?_, hs3⟩
    rw [hnr]
    rcases ee hz with ⟨h1, h2⟩ | ⟨a, b, h1, h2, h3⟩
    · have hd0 : due = [] := by rw [hdue, h1]; rfl
      have en0 : (if w < sa r ∨ 0 < sb r then w else sa r) = 0 := by rw [← hen]; exact h2
      rw [h2]
      subst hd0
      by_cases q1 : w < sa r
      · have hw2 : w = 0 := by rw [if_pos (.inl q1)] at en0; exact en0
        omega
      · by_cases q2 : 0 < sb r
        · have hw2 : w = 0 := by rw [if_pos (.inr q2)] at en0; exact en0
          omega
        · have hs0 : sa r = 0 := by rw [if_neg (by omega)] at en0; exact en0
          have q3 : sa r < w := by omega
          have hwd2 : wd = .str "loose" := by rw [hwd]; unfold tightW; rw [if_neg hz, if_pos q3]
          rw [hwd2] at f4 f10 ⊢
          simp [BD39_1, e1, ef, ap, e2, e3, e4, dv, mu, ↓e5, f1, f2, f3, f4, f5, f6, f7, f8, f9, f10, dft, q1, q2, q3]
          simp [hs0]
    · have hne : due.isEmpty = false := by simpa using h3
      rcases Int.lt_trichotomy (sa r) w with q3 | q3 | q3
      · have hwd2 : wd = .str "loose" := by rw [hwd]; unfold tightW; rw [if_neg hz, if_pos q3]
        have q1 : ¬ (w < sa r) := by omega
        rw [hwd2] at f4 f10 ⊢
        by_cases q2 : 0 < sb r
        · have he : en = w := by rw [hen, if_pos (.inr q2)]
          rw [he] at h2 ⊢
          simp [BD39_1, e1, ef, ap, e2, e3, e4, dv, mu, ↓e5, f1, f2, f3, f4, f5, f6, f7, f8, f9, f10, dft, q1, q2, q3, hne, h1, h2]
        · have he : en = sa r := by rw [hen, if_neg (by omega)]
          rw [he] at h2 ⊢
          simp [BD39_1, e1, ef, ap, e2, e3, e4, dv, mu, ↓e5, f1, f2, f3, f4, f5, f6, f7, f8, f9, f10, dft, q1, q2, q3, hne, h1, h2]
      · have hwd2 : wd = .str "full" := by rw [hwd]; unfold tightW; rw [if_neg hz, if_neg (by omega), if_pos q3]
        rw [hwd2] at f4 f10 ⊢
        have he : en = w := by rw [hen]; split <;> omega
        rw [he] at h2 ⊢
        subst q3
        by_cases q2 : 0 < sb r
        · simp [BD39_1, e1, ef, ap, e2, e3, e4, dv, mu, ↓e5, f1, f2, f3, f4, f5, f6, f7, f8, f9, f10, dft, q2, hne, h1, h2]
        · simp [BD39_1, e1, ef, ap, e2, e3, e4, dv, mu, ↓e5, f1, f2, f3, f4, f5, f6, f7, f8, f9, f10, dft, q2, hne, h1, h2]
      · have hwd2 : wd = .str "tight" := by rw [hwd]; unfold tightW; rw [if_neg hz, if_neg (by omega), if_neg (by omega)]
        have q1 : ¬ (sa r < w) := by omega
        have q4 : ¬ (sa r = w) := by omega
        rw [hwd2] at f4 f10 ⊢
        have he : en = w := by rw [hen, if_pos (.inl q3)]
        rw [he] at h2 ⊢
        simp [BD39_1, e1, ef, ap, e2, e3, e4, dv, mu, ↓e5, f1, f2, f3, f4, f5, f6, f7, f8, f9, f10, dft, q1, q3, q4, hne, h1, h2]
end W
namespace W
open PySem DL L2
variable {k : Nat} {Φ : Nat → Fn}
theorem loop1 (L : Lib2 Φ) {its : List Itm} (g : Good its) {st : D} (hs : IsSt st) {s0 s2 s5 s6 s7 s8 s9 s10 s11 s12 s13 s14 s15 s16 s17 : Slot} :
    ∃ st' t5 t6 t7 t8 t9 t10 t11 t12 t13 t14 t17, evS Φ FR39_1 [s0, .own st, s2, .val (.tup (ds its)), .val (.lst (nums ((List.range its.length).filter (may its)))), s5, s6, s7, s8, s9, s10, s11, s12, s13, s14, s15, s16, s17, .emp] =
      .ok (.nx [s0, .own st', s2, .val (.tup (ds its)), .val (.lst (nums ((List.range its.length).filter (may its)))), t5, t6, t7, t8, t9, t10, t11, t12, t13, t14, s15, s16, t17, .emp]) ∧ IsSt st' := by
  obtain ⟨ρ', f1, st', t5, t6, t7, t8, t9, t10, t11, t12, t13, t14, t17, f2, hs'⟩ := evS_fora (Φ := Φ) (t := .name 5 false) (k := .rng) (src := [(.lit (.int 8))]) (b := BD39_1)
    (ρ := [s0, .own st, s2, .val (.tup (ds its)), .val (.lst (nums ((List.range its.length).filter (may its)))), s5, s6, s7, s8, s9, s10, s11, s12, s13, s14, s15, s16, s17, .emp]) (ρ1 := [s0, .own st, s2, .val (.tup (ds its)), .val (.lst (nums ((List.range its.length).filter (may its)))), s5, s6, s7, s8, s9, s10, s11, s12, s13, s14, s15, s16, s17, .emp]) (ds := [.int (8 : Nat)]) (items := (List.range 8).map fun k => D.int (k : Nat))
    (fun _ ρ => ∃ st t5 t6 t7 t8 t9 t10 t11 t12 t13 t14 t17, ρ = [s0, .own st, s2, .val (.tup (ds its)), .val (.lst (nums ((List.range its.length).filter (may its)))), t5, t6, t7, t8, t9, t10, t11, t12, t13, t14, s15, s16, t17, .emp] ∧ IsSt st) (by simp) (src_rng (by omega)) (fun j x ρ hj ⟨st, t5, t6, t7, t8, t9, t10, t11, t12, t13, t14, t17, hρ, hst⟩ => by
      subst hρ
      obtain ⟨st', u6, u7, u8, u9, u10, u11, u12, u13, u14, u17, e, hst'⟩ := turn1 L g hst rfl (s0 := s0) (s2 := s2) (s5 := .val x) (s6 := t6) (s7 := t7) (s8 := t8) (s9 := t9) (s10 := t10) (s11 := t11) (s12 := t12) (s13 := t13) (s14 := t14) (s15 := s15) (s16 := s16) (s17 := t17)
      exact ⟨[s0, .own st, s2, .val (.tup (ds its)), .val (.lst (nums ((List.range its.length).filter (may its)))), .val x, t6, t7, t8, t9, t10, t11, t12, t13, t14, s15, s16, t17, .emp], _, rfl, .inl e, st', _, _, _, _, _, _, _, _, _, _, _, rfl, hst'⟩) ⟨st, _, _, _, _, _, _, _, _, _, _, _, rfl, hs⟩
  subst f2
  exact ⟨st', _, _, _, _, _, _, _, _, _, _, _, f1, hs'⟩
theorem mem_int {l : List Int} {x : D} (h : x ∈ l.map D.int) : ∃ i ∈ l, x = .int i := by
  obtain ⟨i, h1, rfl⟩ := List.mem_map.mp h
  exact ⟨i, h1, rfl⟩
theorem turn2 (L : Lib2 Φ) {st : D} (hs : IsSt st) {s0 s2 s3 s4 s5 s6 s7 s8 s9 s10 s11 s12 s13 s14 s15 s16 s17 : Slot} :
    ∃ st' t3 t4 t5 t6 t7 t8 t9 t10 t11 t12 t13 t14 t15 t16 t17, evSs Φ BD39_2 [s0, .own st, s2, s3, s4, s5, s6, s7, s8, s9, s10, s11, s12, s13, s14, s15, s16, s17, .emp] =
      .ok (.nx [s0, .own st', s2, t3, t4, t5, t6, t7, t8, t9, t10, t11, t12, t13, t14, t15, t16, t17, .emp]) ∧ IsSt st' := by
  have dw := L.dw
  obtain ⟨x, st1, e1, hx, hs1⟩ := dw.pk st [.int 6, .int 20, .int 60] (by simp) (by simp) hs
  obtain ⟨most, rfl, hm⟩ : ∃ most, x = .int most ∧ 0 < most ∧ most ≤ 120 := by
    simp at hx
    rcases hx with rfl | rfl | rfl <;> exact ⟨_, rfl, by decide, by decide⟩
  obtain ⟨its, st2, e2, g, hs2⟩ := L.items st1 most hs1 hm.1 hm.2
  have e3 := L.plc its (by have := g.len; omega)
  obtain ⟨st3, t5, t6, t7, t8, t9, t10, t11, t12, t13, t14, t17, e4, hs3⟩ := loop1 L g hs2 (s0 := s0) (s2 := s2) (s5 := s5) (s6 := s6) (s7 := s7) (s8 := s8) (s9 := s9) (s10 := s10) (s11 := s11) (s12 := s12) (s13 := s13) (s14 := s14) (s15 := s15) (s16 := s16) (s17 := s17)
  obtain ⟨v, st4, e5, lo, hi, hs4⟩ := dw.dr st3 99 (by decide) (by decide) hs3
  obtain ⟨y, st5, e6, hy, hs5⟩ := dw.pk st4 [.int 0, .int 1, .int 12000000, .int v] (by simp) (by simp) hs4
  obtain ⟨gap, rfl, hg⟩ : ∃ gap, y = .int gap ∧ 0 ≤ gap ∧ gap ≤ 12000000 := by
    simp at hy
    rcases hy with rfl | rfl | rfl | rfl
    · exact ⟨_, rfl, by decide, by decide⟩
    · exact ⟨_, rfl, by decide, by decide⟩
    · exact ⟨_, rfl, by decide, by decide⟩
    · exact ⟨_, rfl, by omega, by omega⟩
  obtain ⟨u, st6, e7, lo2, hi2, hs6⟩ := dw.dr st5 99 (by decide) (by decide) hs5
  obtain ⟨z, st7, e8, hz, hs7⟩ := dw.pk st6 [.int 0, .int 1, .int 12000000, .int (1 + u)] (by simp) (by simp) hs6
  obtain ⟨give, rfl, hv⟩ : ∃ give, z = .int give ∧ 0 ≤ give ∧ give ≤ 12000000 := by
    simp at hz
    rcases hz with rfl | rfl | rfl | rfl
    · exact ⟨_, rfl, by decide, by decide⟩
    · exact ⟨_, rfl, by decide, by decide⟩
    · exact ⟨_, rfl, by decide, by decide⟩
    · exact ⟨_, rfl, by omega, by omega⟩
  have f1 := L.bof gap give hg hv
  have f2 := L.lb gap give hg hv
  have nb : NiceD (.int (badI gap give)) 0 21 := by
    have : 0 ≤ badI gap give ∧ badI gap give ≤ 10000 := by
      unfold badI
      split
      · omega
      · split
        · omega
        · have : 0 ≤ (100 * gap * gap * gap).fdiv (give * give * give) := Int.fdiv_nonneg (Int.mul_nonneg (Int.mul_nonneg (by omega) hg.1) hg.1) (Int.mul_nonneg (Int.mul_nonneg hv.1 hv.1) hv.1)
          split <;> omega
    exact niceD_int (by omega) (by omega)
  have f3 := L.same _ (nb.ok (by omega) (by omega))
  refine ⟨st7, .val (.tup (ds its)), .val (.lst (nums ((List.range its.length).filter (may its)))), t5, t6, t7, t8, t9, t10, t11, t12, t13, t14, .val (.int gap), .val (.int give), t17, ?_, hs7⟩
  simp [BD39_2, e1, e2, e3, e4, e5, e6, e7, e8, f1, f2, f3]
theorem body39 (L : Lib2 Φ) (ns : List Int) : runD Φ D39 [.rol (ns.map .int)] = .ok (.val (.bl true), []) := by
  obtain ⟨st, e1, hs⟩ := L.st ns
  obtain ⟨ρ', f1, st', t2, t3, t4, t5, t6, t7, t8, t9, t10, t11, t12, t13, t14, t15, t16, t17, f2, _⟩ := evS_fora (Φ := Φ) (t := .name 2 false) (k := .rng) (src := [(.lit (.int 3))]) (b := BD39_2)
    (ρ := [.val (.rol (ns.map .int)), .own st, .emp, .emp, .emp, .emp, .emp, .emp, .emp, .emp, .emp, .emp, .emp, .emp, .emp, .emp, .emp, .emp, .emp]) (ρ1 := [.val (.rol (ns.map .int)), .own st, .emp, .emp, .emp, .emp, .emp, .emp, .emp, .emp, .emp, .emp, .emp, .emp, .emp, .emp, .emp, .emp, .emp]) (ds := [.int (3 : Nat)]) (items := (List.range 3).map fun k => D.int (k : Nat))
    (fun _ ρ => ∃ st t2 t3 t4 t5 t6 t7 t8 t9 t10 t11 t12 t13 t14 t15 t16 t17, ρ = [.val (.rol (ns.map .int)), .own st, t2, t3, t4, t5, t6, t7, t8, t9, t10, t11, t12, t13, t14, t15, t16, t17, .emp] ∧ IsSt st) (by simp) (src_rng (by omega)) (fun j x ρ hj ⟨st, t2, t3, t4, t5, t6, t7, t8, t9, t10, t11, t12, t13, t14, t15, t16, t17, hρ, hst⟩ => by
      subst hρ
      obtain ⟨st', u3, u4, u5, u6, u7, u8, u9, u10, u11, u12, u13, u14, u15, u16, u17, e, hst'⟩ := turn2 L hst (s0 := .val (.rol (ns.map .int))) (s2 := .val x) (s3 := t3) (s4 := t4) (s5 := t5) (s6 := t6) (s7 := t7) (s8 := t8) (s9 := t9) (s10 := t10) (s11 := t11) (s12 := t12) (s13 := t13) (s14 := t14) (s15 := t15) (s16 := t16) (s17 := t17)
      exact ⟨[.val (.rol (ns.map .int)), .own st, .val x, t3, t4, t5, t6, t7, t8, t9, t10, t11, t12, t13, t14, t15, t16, t17, .emp], _, rfl, .inl e, st', _, _, _, _, _, _, _, _, _, _, _, _, _, _, _, _, rfl, hst'⟩) ⟨st, _, _, _, _, _, _, _, _, _, _, _, _, _, _, _, _, rfl, hs⟩
  subst f2
  have f1' : evS Φ FR39_2 _ = _ := f1
  have fin : evSs Φ n39 [.val (.rol (ns.map .int)), .emp, .emp, .emp, .emp, .emp, .emp, .emp, .emp, .emp, .emp, .emp, .emp, .emp, .emp, .emp, .emp, .emp, .emp] = .ok (.rt (.val (.bl true)) [.val (.rol (ns.map .int)), .own st', t2, t3, t4, t5, t6, t7, t8, t9, t10, t11, t12, t13, t14, t15, t16, t17, .emp]) := by
    simp [n39, e1, f1']
  exact runD_rt (d := D39) (ds := [.rol (ns.map .int)]) rfl fin rfl rfl
theorem ans (ns : List Int) (h : ns.length ≤ 63) : phi tab 60 39 [.rol (ns.map .int)] = .ok (.val (.bl true), []) := by
  have e : phi tab (59+1) 39 = runD (phi tab (55+4)) D39 := P39
  show phi tab (59+1) 39 _ = _
  rw [e]
  exact body39 lib2 ns
end W
open PySem PySem.W PyProof.Rows
set_option maxHeartbeats 0 in
theorem PySem.Challenge.cw_setinlines_k02_lines_that_are_set_holds : PySem.Challenge.rw_setinlines_k02_lines_that_are_set.Holds := by
  w_on; o_law; k_head; (case hw => w_witness2)
  k_fill
  refine DL.law_end (l := PySem.Challenge.rw_setinlines_k02_lines_that_are_set) (n := 63) (k := 60) (j := 39) (tab := W.tab) (cs := W.cns) (bs := W.bns) (ds := W.dns) rfl (by decide) rfl ⟨rfl, by decide, by decide⟩ (fun w h Y => PySem.W.kIn_of Y) rfl rfl rfl ?qst ?qhb ?qhc ?qhd W.ans
  case qst =>
    intro w
    refine .cons (.by (ps := ["value"]) (Γ := W.g0) (n := 60) (st := W.tp 6) ?dd W.s0 rfl rfl rfl rfl W.c0 rfl rfl rfl rfl) ?_
    case dd =>
      refine' DL.DefAt.by (fun _ _ _ _ _ _ us hl => match us, hl with | [_], _ => rfl) ?a ?l ?c ?k
      (case a => k_is); (case l => k_is); (case c => k_is); (case k => k_is)
    refine .cons (.by (ps := ["items"]) (Γ := W.g1) (n := 60) (st := W.tp 13) ?dd W.s1 rfl rfl rfl rfl W.c1 rfl rfl rfl rfl) ?_
    case dd =>
      refine' DL.DefAt.by (fun _ _ _ _ _ _ us hl => match us, hl with | [_], _ => rfl) ?a ?l ?c ?k
      (case a => k_is); (case l => k_is); (case c => k_is); (case k => k_is)
    refine .cons (.by (ps := ["item"]) (Γ := W.g2) (n := 60) (st := W.tp 14) ?dd W.s2 rfl rfl rfl rfl W.c2 rfl rfl rfl rfl) ?_
    case dd =>
      refine' DL.DefAt.by (fun _ _ _ _ _ _ us hl => match us, hl with | [_], _ => rfl) ?a ?l ?c ?k
      (case a => k_is); (case l => k_is); (case c => k_is); (case k => k_is)
    refine .cons (.by (ps := ["items", "at"]) (Γ := W.g3) (n := 60) (st := W.tp 15) ?dd W.s3 rfl rfl rfl rfl W.c3 rfl rfl rfl rfl) ?_
    case dd =>
      refine' DL.DefAt.by (fun _ _ _ _ _ _ us hl => match us, hl with | [_, _], _ => rfl) ?a ?l ?c ?k
      (case a => k_is); (case l => k_is); (case c => k_is); (case k => k_is)
    refine .cons (.by (ps := ["items", "at"]) (Γ := W.g4) (n := 60) (st := W.tp 16) ?dd W.s4 rfl rfl rfl rfl W.c4 rfl rfl rfl rfl) ?_
    case dd =>
      refine' DL.DefAt.by (fun _ _ _ _ _ _ us hl => match us, hl with | [_, _], _ => rfl) ?a ?l ?c ?k
      (case a => k_is); (case l => k_is); (case c => k_is); (case k => k_is)
    refine .cons (.by (ps := ["items", "at"]) (Γ := W.g5) (n := 60) (st := W.tp 17) ?dd W.s5 rfl rfl rfl rfl W.c5 rfl rfl rfl rfl) ?_
    case dd =>
      refine' DL.DefAt.by (fun _ _ _ _ _ _ us hl => match us, hl with | [_, _], _ => rfl) ?a ?l ?c ?k
      (case a => k_is); (case l => k_is); (case c => k_is); (case k => k_is)
    refine .cons (.by (ps := ["items", "first", "last"]) (Γ := W.g6) (n := 60) (st := W.tp 18) ?dd W.s6 rfl rfl rfl rfl W.c6 rfl rfl rfl rfl) ?_
    case dd =>
      refine' DL.DefAt.by (fun _ _ _ _ _ _ us hl => match us, hl with | [_, _, _], _ => rfl) ?a ?l ?c ?k
      (case a => k_is); (case l => k_is); (case c => k_is); (case k => k_is)
    refine .cons (.by (ps := ["items", "first", "last"]) (Γ := W.g7) (n := 60) (st := W.tp 19) ?dd W.s7 rfl rfl rfl rfl W.c7 rfl rfl rfl rfl) ?_
    case dd =>
      refine' DL.DefAt.by (fun _ _ _ _ _ _ us hl => match us, hl with | [_, _, _], _ => rfl) ?a ?l ?c ?k
      (case a => k_is); (case l => k_is); (case c => k_is); (case k => k_is)
    refine .cons (.by (ps := ["row"]) (Γ := W.g8) (n := 60) (st := W.tp 20) ?dd W.s8 rfl rfl rfl rfl W.c8 rfl rfl rfl rfl) ?_
    case dd =>
      refine' DL.DefAt.by (fun _ _ _ _ _ _ us hl => match us, hl with | [_], _ => rfl) ?a ?l ?c ?k
      (case a => k_is); (case l => k_is); (case c => k_is); (case k => k_is)
    refine .cons (.by (ps := ["width"]) (Γ := W.g9) (n := 60) (st := W.tp 22) ?dd W.s9 rfl rfl rfl rfl W.c9 rfl rfl rfl rfl) ?_
    case dd =>
      refine' DL.DefAt.by (fun _ _ _ _ _ _ us hl => match us, hl with | [_], _ => rfl) ?a ?l ?c ?k
      (case a => k_is); (case l => k_is); (case c => k_is); (case k => k_is)
    refine .cons (.by (ps := ["gap", "give"]) (Γ := W.g10) (n := 60) (st := W.tp 23) ?dd W.s10 rfl rfl rfl rfl W.c10 rfl rfl rfl rfl) ?_
    case dd =>
      refine' DL.DefAt.by (fun _ _ _ _ _ _ us hl => match us, hl with | [_, _], _ => rfl) ?a ?l ?c ?k
      (case a => k_is); (case l => k_is); (case c => k_is); (case k => k_is)
    refine .cons (.by (ps := ["row", "width"]) (Γ := W.g11) (n := 60) (st := W.tp 24) ?dd W.s11 rfl rfl rfl rfl W.c11 rfl rfl rfl rfl) ?_
    case dd =>
      refine' DL.DefAt.by (fun _ _ _ _ _ _ us hl => match us, hl with | [_, _], _ => rfl) ?a ?l ?c ?k
      (case a => k_is); (case l => k_is); (case c => k_is); (case k => k_is)
    refine .cons (.by (ps := ["sums", "width"]) (Γ := W.g12) (n := 60) (st := W.tp 25) ?dd W.s12 rfl rfl rfl rfl W.c12 rfl rfl rfl rfl) ?_
    case dd =>
      refine' DL.DefAt.by (fun _ _ _ _ _ _ us hl => match us, hl with | [_, _], _ => rfl) ?a ?l ?c ?k
      (case a => k_is); (case l => k_is); (case c => k_is); (case k => k_is)
    refine .cons (.by (ps := ["items", "first", "last", "width"]) (Γ := W.g13) (n := 60) (st := W.tp 26) ?dd W.s13 rfl rfl rfl rfl W.c13 rfl rfl rfl rfl) ?_
    case dd =>
      refine' DL.DefAt.by (fun _ _ _ _ _ _ us hl => match us, hl with | [_, _, _, _], _ => rfl) ?a ?l ?c ?k
      (case a => k_is); (case l => k_is); (case c => k_is); (case k => k_is)
    refine .cons (.by (ps := ["gap", "give"]) (Γ := W.g14) (n := 60) (st := W.tp 27) ?dd W.s14 rfl rfl rfl rfl W.c14 rfl rfl rfl rfl) ?_
    case dd =>
      refine' DL.DefAt.by (fun _ _ _ _ _ _ us hl => match us, hl with | [_, _], _ => rfl) ?a ?l ?c ?k
      (case a => k_is); (case l => k_is); (case c => k_is); (case k => k_is)
    refine .cons (.by (ps := ["gap", "give"]) (Γ := W.g15) (n := 60) (st := W.tp 28) ?dd W.s15 rfl rfl rfl rfl W.c15 rfl rfl rfl rfl) ?_
    case dd =>
      refine' DL.DefAt.by (fun _ _ _ _ _ _ us hl => match us, hl with | [_, _], _ => rfl) ?a ?l ?c ?k
      (case a => k_is); (case l => k_is); (case c => k_is); (case k => k_is)
    refine .cons (.by (ps := ["gap", "gives"]) (Γ := W.g16) (n := 60) (st := W.tp 29) ?dd W.s16 rfl rfl rfl rfl W.c16 rfl rfl rfl rfl) ?_
    case dd =>
      refine' DL.DefAt.by (fun _ _ _ _ _ _ us hl => match us, hl with | [_, _], _ => rfl) ?a ?l ?c ?k
      (case a => k_is); (case l => k_is); (case c => k_is); (case k => k_is)
    refine .cons (.by (ps := ["row", "width"]) (Γ := W.g17) (n := 60) (st := W.tp 30) ?dd W.s17 rfl rfl rfl rfl W.c17 rfl rfl rfl rfl) ?_
    case dd =>
      refine' DL.DefAt.by (fun _ _ _ _ _ _ us hl => match us, hl with | [_, _], _ => rfl) ?a ?l ?c ?k
      (case a => k_is); (case l => k_is); (case c => k_is); (case k => k_is)
    refine .cons (.by (ps := ["items", "first", "last", "width"]) (Γ := W.g18) (n := 60) (st := W.tp 31) ?dd W.s18 rfl rfl rfl rfl W.c18 rfl rfl rfl rfl) ?_
    case dd =>
      refine' DL.DefAt.by (fun _ _ _ _ _ _ us hl => match us, hl with | [_, _, _, _], _ => rfl) ?a ?l ?c ?k
      (case a => k_is); (case l => k_is); (case c => k_is); (case k => k_is)
    refine .cons (.by (ps := ["row", "width"]) (Γ := W.g19) (n := 60) (st := W.tp 32) ?dd W.s19 rfl rfl rfl rfl W.c19 rfl rfl rfl rfl) ?_
    case dd =>
      refine' DL.DefAt.by (fun _ _ _ _ _ _ us hl => match us, hl with | [_, _], _ => rfl) ?a ?l ?c ?k
      (case a => k_is); (case l => k_is); (case c => k_is); (case k => k_is)
    refine .cons (.by (ps := ["items", "first", "last", "width", "rows"]) (Γ := W.g20) (n := 60) (st := W.tp 33) ?dd W.s20 rfl rfl rfl rfl W.c20 rfl rfl rfl rfl) ?_
    case dd =>
      refine' DL.DefAt.by (fun _ _ _ _ _ _ us hl => match us, hl with | [_, _, _, _, _], _ => rfl) ?a ?l ?c ?k
      (case a => k_is); (case l => k_is); (case c => k_is); (case k => k_is)
    refine .cons (.by (ps := ["item", "width"]) (Γ := W.g21) (n := 60) (st := W.tp 34) ?dd W.s21 rfl rfl rfl rfl W.c21 rfl rfl rfl rfl) ?_
    case dd =>
      refine' DL.DefAt.by (fun _ _ _ _ _ _ us hl => match us, hl with | [_, _], _ => rfl) ?a ?l ?c ?k
      (case a => k_is); (case l => k_is); (case c => k_is); (case k => k_is)
    refine .cons (.by (ps := ["items", "first", "last", "width"]) (Γ := W.g22) (n := 60) (st := W.tp 35) ?dd W.s22 rfl rfl rfl rfl W.c22 rfl rfl rfl rfl) ?_
    case dd =>
      refine' DL.DefAt.by (fun _ _ _ _ _ _ us hl => match us, hl with | [_, _, _, _], _ => rfl) ?a ?l ?c ?k
      (case a => k_is); (case l => k_is); (case c => k_is); (case k => k_is)
    refine .cons (.by (ps := ["items", "first", "last", "width"]) (Γ := W.g23) (n := 60) (st := W.tp 36) ?dd W.s23 rfl rfl rfl rfl W.c23 rfl rfl rfl rfl) ?_
    case dd =>
      refine' DL.DefAt.by (fun _ _ _ _ _ _ us hl => match us, hl with | [_, _, _, _], _ => rfl) ?a ?l ?c ?k
      (case a => k_is); (case l => k_is); (case c => k_is); (case k => k_is)
    refine .cons (.by (ps := ["sums", "width"]) (Γ := W.g24) (n := 60) (st := W.tp 37) ?dd W.s24 rfl rfl rfl rfl W.c24 rfl rfl rfl rfl) ?_
    case dd =>
      refine' DL.DefAt.by (fun _ _ _ _ _ _ us hl => match us, hl with | [_, _], _ => rfl) ?a ?l ?c ?k
      (case a => k_is); (case l => k_is); (case c => k_is); (case k => k_is)
    refine .cons (.by (ps := ["script"]) (Γ := W.g25) (n := 60) (st := W.tp 39) ?dd W.s25 rfl rfl rfl rfl W.c25 rfl rfl rfl rfl) ?_
    case dd =>
      refine' DL.DefAt.by (fun _ _ _ _ _ _ us hl => match us, hl with | [_], _ => rfl) ?a ?l ?c ?k
      (case a => k_is); (case l => k_is); (case c => k_is); (case k => k_is)
    refine .cons (.by (ps := ["state", "many"]) (Γ := W.g26) (n := 60) (st := W.tp 40) ?dd W.s26 rfl rfl rfl rfl W.c26 rfl rfl rfl rfl) ?_
    case dd =>
      refine' DL.DefAt.by (fun _ _ _ _ _ _ us hl => match us, hl with | [_, _], _ => rfl) ?a ?l ?c ?k
      (case a => k_is); (case l => k_is); (case c => k_is); (case k => k_is)
    refine .cons (.by (ps := ["state", "some"]) (Γ := W.g27) (n := 60) (st := W.tp 41) ?dd W.s27 rfl rfl rfl rfl W.c27 rfl rfl rfl rfl) ?_
    case dd =>
      refine' DL.DefAt.by (fun _ _ _ _ _ _ us hl => match us, hl with | [_, _], _ => rfl) ?a ?l ?c ?k
      (case a => k_is); (case l => k_is); (case c => k_is); (case k => k_is)
    refine .cons (.by (ps := ["actual", "due"]) (Γ := W.g28) (n := 60) (st := W.tp 42) ?dd W.s28 rfl rfl rfl rfl W.c28 rfl rfl rfl rfl) ?_
    case dd =>
      refine' DL.DefAt.by (fun _ _ _ _ _ _ us hl => match us, hl with | [_, _], _ => rfl) ?a ?l ?c ?k
      (case a => k_is); (case l => k_is); (case c => k_is); (case k => k_is)
    refine .cons (.by (ps := ["state", "most"]) (Γ := W.g29) (n := 60) (st := W.tp 43) ?dd W.s29 rfl rfl rfl rfl W.c29 rfl rfl rfl rfl) ?_
    case dd =>
      refine' DL.DefAt.by (fun _ _ _ _ _ _ us hl => match us, hl with | [_, _], _ => rfl) ?a ?l ?c ?k
      (case a => k_is); (case l => k_is); (case c => k_is); (case k => k_is)
    refine .cons (.by (ps := ["items", "at"]) (Γ := W.g30) (n := 60) (st := W.tp 44) ?dd W.s30 rfl rfl rfl rfl W.c30 rfl rfl rfl rfl) ?_
    case dd =>
      refine' DL.DefAt.by (fun _ _ _ _ _ _ us hl => match us, hl with | [_, _], _ => rfl) ?a ?l ?c ?k
      (case a => k_is); (case l => k_is); (case c => k_is); (case k => k_is)
    refine .cons (.by (ps := ["items"]) (Γ := W.g31) (n := 60) (st := W.tp 45) ?dd W.s31 rfl rfl rfl rfl W.c31 rfl rfl rfl rfl) ?_
    case dd =>
      refine' DL.DefAt.by (fun _ _ _ _ _ _ us hl => match us, hl with | [_], _ => rfl) ?a ?l ?c ?k
      (case a => k_is); (case l => k_is); (case c => k_is); (case k => k_is)
    refine .cons (.by (ps := ["items", "first"]) (Γ := W.g32) (n := 60) (st := W.tp 46) ?dd W.s32 rfl rfl rfl rfl W.c32 rfl rfl rfl rfl) ?_
    case dd =>
      refine' DL.DefAt.by (fun _ _ _ _ _ _ us hl => match us, hl with | [_, _], _ => rfl) ?a ?l ?c ?k
      (case a => k_is); (case l => k_is); (case c => k_is); (case k => k_is)
    refine .cons (.by (ps := ["items", "first", "last"]) (Γ := W.g33) (n := 60) (st := W.tp 47) ?dd W.s33 rfl rfl rfl rfl W.c33 rfl rfl rfl rfl) ?_
    case dd =>
      refine' DL.DefAt.by (fun _ _ _ _ _ _ us hl => match us, hl with | [_, _, _], _ => rfl) ?a ?l ?c ?k
      (case a => k_is); (case l => k_is); (case c => k_is); (case k => k_is)
    refine .cons (.by (ps := ["row"]) (Γ := W.g34) (n := 60) (st := W.tp 48) ?dd W.s34 rfl rfl rfl rfl W.c34 rfl rfl rfl rfl) ?_
    case dd =>
      refine' DL.DefAt.by (fun _ _ _ _ _ _ us hl => match us, hl with | [_], _ => rfl) ?a ?l ?c ?k
      (case a => k_is); (case l => k_is); (case c => k_is); (case k => k_is)
    refine .cons (.by (ps := ["gap", "give"]) (Γ := W.g35) (n := 60) (st := W.tp 49) ?dd W.s35 rfl rfl rfl rfl W.c35 rfl rfl rfl rfl) ?_
    case dd =>
      refine' DL.DefAt.by (fun _ _ _ _ _ _ us hl => match us, hl with | [_, _], _ => rfl) ?a ?l ?c ?k
      (case a => k_is); (case l => k_is); (case c => k_is); (case k => k_is)
    refine .cons (.by (ps := ["sums", "width"]) (Γ := W.g36) (n := 60) (st := W.tp 50) ?dd W.s36 rfl rfl rfl rfl W.c36 rfl rfl rfl rfl) ?_
    case dd =>
      refine' DL.DefAt.by (fun _ _ _ _ _ _ us hl => match us, hl with | [_, _], _ => rfl) ?a ?l ?c ?k
      (case a => k_is); (case l => k_is); (case c => k_is); (case k => k_is)
    refine .cons (.by (ps := ["sums", "width"]) (Γ := W.g37) (n := 60) (st := W.tp 51) ?dd W.s37 rfl rfl rfl rfl W.c37 rfl rfl rfl rfl) ?_
    case dd =>
      refine' DL.DefAt.by (fun _ _ _ _ _ _ us hl => match us, hl with | [_, _], _ => rfl) ?a ?l ?c ?k
      (case a => k_is); (case l => k_is); (case c => k_is); (case k => k_is)
    refine .cons (.by (ps := ["row", "width"]) (Γ := W.g38) (n := 60) (st := W.tp 52) ?dd W.s38 rfl rfl rfl rfl W.c38 rfl rfl rfl rfl) ?_
    case dd =>
      refine' DL.DefAt.by (fun _ _ _ _ _ _ us hl => match us, hl with | [_, _], _ => rfl) ?a ?l ?c ?k
      (case a => k_is); (case l => k_is); (case c => k_is); (case k => k_is)
    refine .cons (.by (ps := ["script"]) (Γ := W.g39) (n := 60) (st := W.tp 53) ?dd W.s39 rfl rfl rfl rfl W.c39 rfl rfl rfl rfl) ?_
    case dd =>
      refine' DL.DefAt.by (fun _ _ _ _ _ _ us hl => match us, hl with | [_], _ => rfl) ?a ?l ?c ?k
      (case a => k_is); (case l => k_is); (case c => k_is); (case k => k_is)
    exact .nil
  case qhb =>
    intro w x hx
    have hx := List.mem_of_elem_eq_true hx
    simp only [W.bns, List.mem_cons, List.not_mem_nil, or_false] at hx
    rcases hx with rfl | rfl | rfl | rfl | rfl | rfl | rfl | rfl | rfl | rfl | rfl | rfl | rfl | rfl | rfl
    · (show PySem.W.nsIn _ PySem.mainGlobals ("len" : PySem.Str) = some none); k_is
    · (show PySem.W.nsIn _ PySem.mainGlobals ("int" : PySem.Str) = some none); k_is
    · (show PySem.W.nsIn _ PySem.mainGlobals ("abs" : PySem.Str) = some none); k_is
    · (show PySem.W.nsIn _ PySem.mainGlobals ("all" : PySem.Str) = some none); k_is
    · (show PySem.W.nsIn _ PySem.mainGlobals ("sum" : PySem.Str) = some none); k_is
    · (show PySem.W.nsIn _ PySem.mainGlobals ("max" : PySem.Str) = some none); k_is
    · (show PySem.W.nsIn _ PySem.mainGlobals ("min" : PySem.Str) = some none); k_is
    · (show PySem.W.nsIn _ PySem.mainGlobals ("tuple" : PySem.Str) = some none); k_is
    · (show PySem.W.nsIn _ PySem.mainGlobals ("list" : PySem.Str) = some none); k_is
    · (show PySem.W.nsIn _ PySem.mainGlobals ("repr" : PySem.Str) = some none); k_is
    · (show PySem.W.nsIn _ PySem.mainGlobals ("isinstance" : PySem.Str) = some none); k_is
    · (show PySem.W.nsIn _ PySem.mainGlobals ("bool" : PySem.Str) = some none); k_is
    · (show PySem.W.nsIn _ PySem.mainGlobals ("str" : PySem.Str) = some none); k_is
    · (show PySem.W.nsIn _ PySem.mainGlobals ("range" : PySem.Str) = some none); k_is
    · (show PySem.W.nsIn _ PySem.mainGlobals ("zip" : PySem.Str) = some none); k_is
  case qhc =>
    intro w x d hx
    have hx := PySem.mem_of_lookup hx
    simp only [W.cns, List.mem_cons, List.not_mem_nil, or_false, Prod.mk.injEq] at hx
    rcases hx with ⟨rfl, rfl⟩ | ⟨rfl, rfl⟩ | ⟨rfl, rfl⟩ | ⟨rfl, rfl⟩
    · refine ⟨_, rfl, ?_⟩
      refine' DL.IntAt.by ?h; (case h => k_is)
    · refine ⟨_, rfl, ?_⟩
      refine' DL.IntAt.by ?h; (case h => k_is)
    · refine ⟨_, rfl, ?_⟩
      refine' DL.IntAt.by ?h; (case h => k_is)
    · refine ⟨_, rfl, ?_⟩
      refine' DL.IntAt.by ?h; (case h => k_is)
  case qhd =>
    intro w x kvs hx
    have hx := PySem.mem_of_lookup hx
    simp only [W.dns, List.mem_cons, List.not_mem_nil, or_false, Prod.mk.injEq] at hx
    rcases hx with ⟨rfl, rfl⟩
    · refine' DL.DictAt.by ?h ?l ?low ?k ?r
      (case h => k_is); (case l => k_is); (case low => decide)
      · exact ⟨⟨_, _, rfl, rfl⟩, ⟨⟨_, _, rfl, rfl⟩, ⟨⟨_, _, rfl, rfl⟩, trivial⟩⟩⟩
      · exact .cons ⟨_, rfl⟩ ⟨_, rfl⟩ (.cons ⟨_, rfl⟩ ⟨_, rfl⟩ (.cons ⟨_, rfl⟩ ⟨_, rfl⟩ (.nil)))
