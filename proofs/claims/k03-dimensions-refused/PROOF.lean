import PyProof.Rows.All
import Wide.All
import OpenK.AllK
import Wide.FinOn
import HandS.ForMost
import HandS.ForExc
import HandS.CallSlots
import HandS.AnyAll
import HandS.TupAny
import HandS.Wide
import HandS.Deep
import HandS.Text
import HandS.ExcIs
import HandS.ExcCtx
import HandS.Rev
import HandS.RevRange
import HandS.IsInst
import HandS.Flt
import HandS.ExcSuper
import HandS.ExcInit
import HandS.Strs
import HandS.Codes
import HandS.GenList
import HandS.EndOwn
import KE.KNestM
import HandS.ReCall
import HandS.Style
import HandS.RevTup
import HandS.TryOnly
import HandS.NestedK
import KE.KExcSuper
import HandS.ExcField
import KE.KExcIs
import HandS.HotCalls
import KE.KExcLine
import PySem.Challenge.RW_cubesums_k03_dimensions_refused
set_option Elab.async false
set_option linter.all false
set_option maxRecDepth 100000
set_option maxHeartbeats 4000000
namespace VL
open PySem PySem.Spec PyProof.Rows L2
def Nd (K : PySem.W.Frag) (H : Hp) (a : Addr) : Prop := (∃ o u, H a = some (.frz o u) ∧ o.dict = none) ∨ ∃ o, K.lookup a = some o ∧ o.dict = none
def SqN (K : PySem.W.Frag) (H : Hp) (a : Addr) (vs : List V) : Prop := SqT K H a vs ∧ Nd K H a
def NewT (H : Hp) (vs : List V) (Q : VK) : Prop := ∀ p o, H p = none → o.dict = none → Q (.ref p) (upd H p (.frz o (.tup vs)))
theorem newT_frz {H : Hp} {p : Addr} {o : Obj} {vs : List V} {K : PySem.W.Frag} (h : o.dict = none) : SqN K (upd H p (.frz o (.tup vs))) p vs := ⟨.inl (.inr ⟨o, upd_same⟩), .inl ⟨o, _, upd_same, h⟩⟩
section
variable {X : Cx} {pos : Pos} {es : List Expr} {t : TA}
def tTupN (t : TA) : TE := fun σ H Q => t σ H fun xs H1 => xs.length ≤ sizeLine ∧ NewT H1 xs Q
theorem pe_tupN {x1} (h : PA X es t) : PE X (.Tuple es x1 pos) (tTupN t) := by
  refine ⟨fun pins s σ H Q I hq => ?_⟩
  refine wpAny_Tuple_spliced (thn (h.run pos pins s σ H _ I hq) fun us s1 ⟨xs, H1, I1, r, z, q⟩ => ⟨by rw [← r.length]; exact z, ?_⟩)
  have hf : H1 s1.heap.objs.size = none := I1.hok.fresh (Nat.le_refl _)
  refine ⟨.ref s1.heap.objs.size, upd H1 s1.heap.objs.size (.frz _ (.tup xs)), I1.laid (t' := s1.toks) (fun b u e => Heap.get?_push_of_some _ e) (Nat.le_refl _) ⟨Heap.get?_push_size _ rfl, ?_⟩, rfl, q _ _ hf rfl⟩
  exact ⟨z, us, r, ⟨_, Heap.get?_push_size _ rfl, rfl, _, rfl⟩⟩
def rSlN (K : PySem.W.Frag) : V → Option Int → Option Int → Hp → VK → Prop := fun x lo hi H Q => ∃ a xs, x = .ref a ∧ SqT K H a xs ∧
  (HT.sIx xs.length 0 lo = 0 ∧ HT.sIx xs.length xs.length hi = xs.length → Q (.ref a) H) ∧ (¬ (HT.sIx xs.length 0 lo = 0 ∧ HT.sIx xs.length xs.length hi = xs.length) → NewT H (cutV xs lo hi) Q)
theorem sl_tupN : SlR X (rSlN X.K) := by
  intro pins s σ H x v vl vu lo hi sl Q I rx hs pl pu h
  obtain ⟨a, xs, rfl, hx, q1, q2⟩ := h
  cases rx
  obtain ⟨its, r, ht, hz⟩ := I.tuple hx
  have hlen : its.toArray.size = xs.length := by rw [List.size_toArray]; exact r.length.symm
  refine ⟨"tuple", _, PyProof.Rows.slot_tuple_getitem.lookup, ht.typeIs, ?_⟩
  by_cases hw : HT.sIx xs.length 0 lo = 0 ∧ HT.sIx xs.length xs.length hi = xs.length
  · exact getItem_tuple_whole ht hs pl pu (by rw [hlen]; exact hw) ⟨.ref a, H, I, rfl, q1 hw⟩
  · refine HT.getItem_tuple_cut ht hs pl pu (by rw [hlen]; exact hw) ?_ (by rw [hlen]; exact hz)
    rw [hlen]
    refine ⟨.ref s.heap.objs.size, _, I.laid (t' := s.toks) (o := .frz _ (.tup (cutV xs lo hi))) (fun b ob q => Heap.get?_push_of_some _ q) (Nat.le_refl _) ⟨Heap.get?_push_size _ rfl, ?_⟩, rfl, q2 hw _ _ (I.hok.fresh (Nat.le_refl _)) rfl⟩
    exact ⟨Nat.le_trans (cutV_length xs lo hi) hz, _, (r.drop (HT.sIx xs.length 0 lo)).take (HT.sIx xs.length xs.length hi - HT.sIx xs.length 0 lo), IsTup.new _ _⟩
def rCatN (K : PySem.W.Frag) : R2 := fun x y H Q => ∃ a b xs ys, x = .ref a ∧ y = .ref b ∧ SqT K H a xs ∧ SqT K H b ys ∧ xs.length + ys.length ≤ sizeLine ∧
  (xs = [] → Q (.ref b) H) ∧ (xs ≠ [] → ys = [] → Q (.ref a) H) ∧ (xs ≠ [] → ys ≠ [] → NewT H (xs ++ ys) Q)
theorem op_catN : OpR X (binaryOp .Add) (rCatN X.K) := by
  intro pins s σ H x y v u Q I rx ry h
  obtain ⟨a, b, xs, ys, rfl, rfl, ha, hb, hz, q0, q1, q2⟩ := h
  cases rx
  cases ry
  obtain ⟨its, r1, p1, _⟩ := I.tuple ha
  obtain ⟨its2, r2, p2, _⟩ := I.tuple hb
  by_cases hx : xs = []
  · subst hx
    cases r1
    exact cat_tup0 p1 p2 ⟨.ref b, H, I, rfl, q0 rfl⟩
  · refine HT.cat_tup p1 p2 (fun z => hx (r1.nil_iff.mp z)) (fun z => ⟨.ref a, H, I, rfl, q1 hx (r2.nil_iff.mp z)⟩) (fun z => ?_) (by rw [← r1.length, ← r2.length]; exact hz)
    refine ⟨.ref s.heap.objs.size, _, I.laid (t' := s.toks) (o := .frz _ (.tup (xs ++ ys))) (fun b ob q => Heap.get?_push_of_some _ q) (Nat.le_refl _) ⟨Heap.get?_push_size _ rfl, ?_⟩, rfl, q2 hx (fun w => z (r2.nil_iff.mpr w)) _ _ (I.hok.fresh (Nat.le_refl _)) rfl⟩
    exact ⟨by rw [List.length_append]; exact hz, _, r1.append r2, IsTup.new _ _⟩
theorem call_tupleN : CallR X (.type "tuple") (fun xs H Q => ∃ p ys, xs = [.ref p] ∧ ((SqL X.K H p ys ∧ NewT H ys Q) ∨ (SqT X.K H p ys ∧ Q (.ref p) H))) := by
  intro pins s σ H xs us Q I r h
  obtain ⟨p, ys, rfl, h⟩ := h
  obtain ⟨u, rfl, rx⟩ := vals1 r
  cases rx
  rcases h with ⟨hq, q⟩ | ⟨hq, q⟩
  · obtain ⟨its, r', pl, hz⟩ := I.list hq
    have hlen := r'.length
    have hn := line63
    refine call_tuple_list pl.isList (fun h' kp => ?_) (by simp only [List.size_toArray] <;> omega)
    have I1 : Inv X pins σ H { s with heap := h' } := I.kept (t' := s.toks) kp
    have I2 : Inv X pins σ (upd H h'.objs.size (.frz { cls := .type "tuple", data := .seq its.toArray } (.tup ys))) { s with heap := h'.push { cls := .type "tuple", data := .seq its.toArray } } :=
      I1.laid (t' := s.toks) (fun b o e => Heap.get?_push_of_some _ e) (Nat.le_refl _) ⟨Heap.get?_push_size _ rfl, (show ObjOk X.prog X.w _ _ _ (.tup ys) from ⟨hz, its, r', IsTup.new _ _⟩)⟩
    exact ⟨.ref h'.objs.size, _, I2, rfl, q _ _ (I1.hok.fresh (Nat.le_refl _)) rfl⟩
  · obtain ⟨its, r', pl, hz⟩ := I.tuple hq
    exact call_tuple_same pl ⟨.ref p, H, I, rfl, q⟩
end
end VL
set_option Elab.async false
set_option linter.all false
set_option maxRecDepth 100000
set_option maxHeartbeats 4000000
namespace VL
open PySem PySem.Spec PyProof.Rows L2
class CM where
  at_ : Str → Addr
  xs : List Str
variable [CM]
inductive D where
  | non
  | bl (b : Bool)
  | int (i : Int)
  | str (x : Str)
  | tup (ds : List D)
  | lst (ds : List D)
  | obj (C : Str) (fs : List (Str × D))
  | scr (ds : List D)
mutual
inductive Rp (K : PySem.W.Frag) (H : Hp) : D → V → Prop
  | non : Rp K H .non .non
  | bl (b : Bool) : Rp K H (.bl b) (.bl b)
  | int (i : Int) : Rp K H (.int i) (.int i)
  | str (x : Str) : Rp K H (.str x) (.str x)
  | tup {a : Addr} {vs : List V} {ds : List D} : SqN K H a vs → RpL K H ds vs → Rp K H (.tup ds) (.ref a)
  | lst {a : Addr} {vs : List V} {ds : List D} : H a = some (.lst vs) → RpL K H ds vs → Rp K H (.lst ds) (.ref a)
  | obj {a dx : Addr} {C : Str} {fs : List (Str × D)} {gs : List (Str × V)} : H a = some (.ins (CM.at_ C) dx gs) → RpF K H fs gs → Rp K H (.obj C fs) (.ref a)
  | scr {a : Addr} {vs : List V} {ds : List D} : SqL K H a vs → RpL K H ds vs → Rp K H (.scr ds) (.ref a)
inductive RpL (K : PySem.W.Frag) (H : Hp) : List D → List V → Prop
  | nil : RpL K H [] []
  | cons {d : D} {v : V} {ds : List D} {vs : List V} : Rp K H d v → RpL K H ds vs → RpL K H (d :: ds) (v :: vs)
inductive RpF (K : PySem.W.Frag) (H : Hp) : List (Str × D) → List (Str × V) → Prop
  | nil : RpF K H [] []
  | cons {n : Str} {d : D} {v : V} {fs : List (Str × D)} {gs : List (Str × V)} : Rp K H d v → RpF K H fs gs → RpF K H ((n, d) :: fs) ((n, v) :: gs)
end
theorem same_seqT {K : PySem.W.Frag} {H H' : Hp} {a : Addr} {xs : List V} (e : Same H H') (h : SqT K H a xs) : SqT K H' a xs := by
  rcases h with (h | ⟨o, h⟩) | h
  · exact .inl (.inl (e _ _ h))
  · exact .inl (.inr ⟨o, e _ _ h⟩)
  · exact .inr h
section
variable {K : PySem.W.Frag} {H H' Hb Hb' : Hp}
theorem SqN.mn {K : PySem.W.Frag} {H H' : Hp} {a : Addr} {xs : List V} (h : SqN K H a xs) (e : Same H H') : SqN K H' a xs := ⟨same_seqT e h.1, h.2.elim (fun ⟨o, u, h1, h2⟩ => .inl ⟨o, u, e _ _ h1, h2⟩) .inr⟩
mutual
theorem Rp.mono (e : Same H H') : ∀ (d : D) (v : V), Rp K H d v → Rp K H' d v
  | .non, _, h => by cases h; exact .non
  | .bl b, _, h => by cases h; exact .bl b
  | .int i, _, h => by cases h; exact .int i
  | .str x, _, h => by cases h; exact .str x
  | .tup ds, _, h => by cases h with | tup s r => exact .tup (s.mn e) (RpL.mono e ds _ r)
  | .lst ds, _, h => by cases h with | lst s r => exact .lst (e _ _ s) (RpL.mono e ds _ r)
  | .scr ds, _, h => by cases h with | scr s r => exact .scr (e.seq s) (RpL.mono e ds _ r)
  | .obj C fs, _, h => by cases h with | obj s r => exact .obj (e _ _ s) (RpF.mono e fs _ r)
theorem RpL.mono (e : Same H H') : ∀ (ds : List D) (vs : List V), RpL K H ds vs → RpL K H' ds vs
  | [], _, h => by cases h; exact .nil
  | d :: ds, _, h => by cases h with | cons a r => exact .cons (Rp.mono e d _ a) (RpL.mono e ds _ r)
theorem RpF.mono (e : Same H H') : ∀ (fs : List (Str × D)) (gs : List (Str × V)), RpF K H fs gs → RpF K H' fs gs
  | [], _, h => by cases h; exact .nil
  | (n, d) :: fs, _, h => by cases h with | cons a r => exact .cons (Rp.mono e d _ a) (RpF.mono e fs _ r)
end
theorem Rp.mn {d : D} {v : V} (h : Rp K H d v) (e : Same H H') : Rp K H' d v := Rp.mono e d v h
theorem RpL.mn {d : List D} {v : List V} (h : RpL K H d v) (e : Same H H') : RpL K H' d v := RpL.mono e d v h
theorem RpF.mn {d : List (Str × D)} {v : List (Str × V)} (h : RpF K H d v) (e : Same H H') : RpF K H' d v := RpF.mono e d v h
theorem RpL.length : ∀ {ds : List D} {vs : List V}, RpL K H ds vs → vs.length = ds.length
  | [], _, h => by cases h; rfl
  | d :: ds, _, h => by cases h with | cons a r => simp [RpL.length r]
theorem RpL.get : ∀ {ds : List D} {vs : List V} {i : Nat} {d : D}, RpL K H ds vs → ds[i]? = some d → ∃ v, vs[i]? = some v ∧ Rp K H d v
  | [], _, _, _, _, e => by simp at e
  | d :: ds, _, 0, _, h, e => by cases h with | cons a r => simp at e; subst e; exact ⟨_, rfl, a⟩
  | d :: ds, _, i + 1, _, h, e => by
    cases h with
    | cons a r =>
      obtain ⟨v, h1, h2⟩ := RpL.get (i := i) r (by simpa using e)
      exact ⟨v, by simpa using h1, h2⟩
theorem RpL.app : ∀ {ds es : List D} {vs ws : List V}, RpL K H ds vs → RpL K H es ws → RpL K H (ds ++ es) (vs ++ ws)
  | [], _, _, _, h, g => by cases h; exact g
  | d :: ds, _, _, _, h, g => by cases h with | cons a r => exact .cons a (RpL.app r g)
theorem RpL.one {d : D} {v : V} (h : Rp K H d v) : RpL K H [d] [v] := .cons h .nil
theorem RpL.take : ∀ {ds : List D} {vs : List V} (n : Nat), RpL K H ds vs → RpL K H (ds.take n) (vs.take n)
  | _, _, 0, _ => by simp; exact .nil
  | [], _, n + 1, h => by cases h; exact .nil
  | d :: ds, _, n + 1, h => by cases h with | cons a r => exact .cons a (RpL.take n r)
theorem RpL.drop : ∀ {ds : List D} {vs : List V} (n : Nat), RpL K H ds vs → RpL K H (ds.drop n) (vs.drop n)
  | _, _, 0, h => h
  | [], _, n + 1, h => by cases h; exact .nil
  | d :: ds, _, n + 1, h => by cases h with | cons a r => exact RpL.drop n r
theorem RpL.set : ∀ {ds : List D} {vs : List V} {d : D} {v : V} (n : Nat), Rp K H d v → RpL K H ds vs → RpL K H (ds.set n d) (vs.set n v)
  | [], _, _, _, _, _, h => by cases h; exact .nil
  | x :: ds, _, _, _, 0, g, h => by cases h with | cons a r => exact .cons g r
  | x :: ds, _, _, _, n + 1, g, h => by cases h with | cons a r => exact .cons a (RpL.set n g r)
theorem RpF.look : ∀ {fs : List (Str × D)} {gs : List (Str × V)} {n : Str} {d : D}, RpF K H fs gs → fs.lookup n = some d → ∃ v, gs.lookup n = some v ∧ Rp K H d v
  | [], _, _, _, _, e => by simp at e
  | (m, x) :: fs, _, n, d, h, e => by
    cases h with
    | cons a r =>
      simp only [List.lookup_cons] at e ⊢
      cases hx : n == m with
      | true => rw [hx] at e; cases e; exact ⟨_, rfl, a⟩
      | false => rw [hx] at e; exact RpF.look r e
theorem RpF.none : ∀ {fs : List (Str × D)} {gs : List (Str × V)} {n : Str}, RpF K H fs gs → fs.lookup n = none → gs.lookup n = none
  | [], _, _, h, _ => by cases h; rfl
  | (m, x) :: fs, _, n, h, e => by
    cases h with
    | cons a r =>
      simp only [List.lookup_cons] at e ⊢
      cases hx : n == m with
      | true => rw [hx] at e; cases e
      | false => rw [hx] at e; exact RpF.none r e
end
inductive RR (K : PySem.W.Frag) (Hb H : Hp) : D → V → Prop
  | non : RR K Hb H .non .non
  | bl (b : Bool) : RR K Hb H (.bl b) (.bl b)
  | int (i : Int) : RR K Hb H (.int i) (.int i)
  | str (x : Str) : RR K Hb H (.str x) (.str x)
  | tup {a : Addr} {vs : List V} {ds : List D} : SqN K Hb a vs → RpL K Hb ds vs → RR K Hb H (.tup ds) (.ref a)
  | lst {a : Addr} {vs : List V} {ds : List D} : H a = some (.lst vs) → RpL K Hb ds vs → RR K Hb H (.lst ds) (.ref a)
  | scr {a : Addr} {vs : List V} {ds : List D} : SqL K H a vs → RpL K Hb ds vs → RR K Hb H (.scr ds) (.ref a)
  | obj {a dx : Addr} {C : Str} {fs : List (Str × D)} {gs : List (Str × V)} : H a = some (.ins (CM.at_ C) dx gs) → RpF K Hb fs gs → RR K Hb H (.obj C fs) (.ref a)
theorem Rp.rr {K : PySem.W.Frag} {Hb H : Hp} {d : D} {v : V} (h : Rp K Hb d v) (e : Same Hb H) : RR K Hb H d v := by
  cases h with
  | non => exact .non
  | bl b => exact .bl b
  | int i => exact .int i
  | str x => exact .str x
  | tup s r => exact .tup s r
  | lst s r => exact .lst (e _ _ s) r
  | scr s r => exact .scr (e.seq s) r
  | obj s r => exact .obj (e _ _ s) r
theorem RR.up {K : PySem.W.Frag} {Hb H : Hp} {d : D} {v : V} (h : RR K Hb H d v) (e : Same Hb H) : Rp K H d v := by
  cases h with
  | non => exact .non
  | bl b => exact .bl b
  | int i => exact .int i
  | str x => exact .str x
  | tup s r => exact .tup (s.mn e) (r.mn e)
  | lst s r => exact .lst s (r.mn e)
  | scr s r => exact .scr s (r.mn e)
  | obj s r => exact .obj s (r.mn e)
inductive OC where
  | lst (ds : List D)
  | ins (C : Str) (fs : List (Str × D))
@[simp] def OC.fz : OC → D
  | .lst ds => .lst ds
  | .ins C fs => .obj C fs
def Cont (K : PySem.W.Frag) (Hb H : Hp) (a : Addr) : OC → Prop
  | .lst ds => ∃ vs, H a = some (.lst vs) ∧ RpL K Hb ds vs
  | .ins C fs => ∃ dx gs, H a = some (.ins (CM.at_ C) dx gs) ∧ RpF K Hb fs gs
theorem Cont.there {K : PySem.W.Frag} {Hb H : Hp} {a : Addr} {oc : OC} (h : Cont K Hb H a oc) : ∃ o, H a = some o := by
  cases oc with
  | lst ds => obtain ⟨vs, e, _⟩ := h; exact ⟨_, e⟩
  | ins C fs => obtain ⟨dx, gs, e, _⟩ := h; exact ⟨_, e⟩
theorem Cont.notab {K : PySem.W.Frag} {Hb H : Hp} {a : Addr} {oc : OC} (h : Cont K Hb H a oc) {P : Addr} (t : GxR.TabG H P) : P ≠ a := by
  rintro rfl
  obtain ⟨ps, e, _⟩ := t
  cases oc with
  | lst ds => obtain ⟨vs, e', _⟩ := h; rw [e] at e'; cases e'
  | ins C fs => obtain ⟨dx, gs, e', _⟩ := h; rw [e] at e'; cases e'
theorem Cont.rr {K : PySem.W.Frag} {Hb H : Hp} {a : Addr} {oc : OC} (h : Cont K Hb H a oc) : RR K Hb H oc.fz (.ref a) := by
  cases oc with
  | lst ds => obtain ⟨vs, e, r⟩ := h; exact .lst e r
  | ins C fs => obtain ⟨dx, gs, e, r⟩ := h; exact .obj e r
theorem Cont.mn {K : PySem.W.Frag} {Hb Hb' H H' : Hp} {a : Addr} {oc : OC} (h : Cont K Hb H a oc) (s : Same Hb Hb') (e : ∀ o, H a = some o → H' a = some o) : Cont K Hb' H' a oc := by
  cases oc with
  | lst ds => obtain ⟨vs, q, r⟩ := h; exact ⟨vs, e _ q, r.mn s⟩
  | ins C fs => obtain ⟨dx, gs, q, r⟩ := h; exact ⟨dx, gs, e _ q, r.mn s⟩
inductive M where
  | val (d : D)
  | own (c : OC)
@[simp] def M.view : M → D
  | .val d => d
  | .own c => c.fz
abbrev Env := List (Option M)
inductive W where
  | val (d : D)
  | cel (i : Nat)
  | tmp (c : OC)
def view (w : W) (env : Env) : Option D := match w with
  | .val d => some d
  | .cel i => match env[i]? with
    | some (some m) => some m.view
    | _ => none
  | .tmp c => some c.fz
structure VC where
  T : List Addr
  fx : List Nat
  xc : List (Nat × Addr × List (Addr × List (Str × V)))
structure Fm where
  Fr : Hp
  B : Hp
  fv : Nat → V
def XvOk (c : VC) (f : Fm) (Hb : Hp) : Prop := ∀ p ∈ c.xc, f.fv p.1 = .ref p.2.1 ∧ ∀ q ∈ p.2.2, Hb q.1 = some (.xd q.2)
theorem XvOk.mn {c : VC} {f : Fm} {Hb Hb' : Hp} (h : XvOk c f Hb) (s : Same Hb Hb') : XvOk c f Hb' := fun p hp => ⟨(h p hp).1, fun q hq => s _ _ ((h p hp).2 q hq)⟩
structure Rl (K : PySem.W.Frag) (c : VC) (f : Fm) (Hb : Hp) (env : Env) (σ : L2.St) (H : Hp) : Prop where
  len : σ.length = env.length
  val : ∀ {i : Nat} {d : D}, env[i]? = some (some (.val d)) → ∃ v, σ[i]? = some (some v) ∧ Rp K Hb d v
  own : ∀ {i : Nat} {oc : OC}, env[i]? = some (some (.own oc)) → ∃ a, σ[i]? = some (some (.ref a)) ∧ Hb a = none ∧ f.Fr a = none ∧ Cont K Hb H a oc
  inj : ∀ {i j : Nat} {oc oc' : OC} {a : Addr}, env[i]? = some (some (.own oc)) → env[j]? = some (some (.own oc')) → σ[i]? = some (some (.ref a)) → σ[j]? = some (some (.ref a)) → i = j
  sub : Same Hb H
  frm : Same f.Fr H
  frb : ∀ b o, f.Fr b = some o → Hb b = f.B b
  tab : ∀ P ∈ c.T, GxR.TabG H P ∧ Hb P = none ∧ f.Fr P = none
  fix : ∀ i ∈ c.fx, σ[i]? = some (some (f.fv i))
  xv : XvOk c f Hb
def RW (K : PySem.W.Frag) (f : Fm) (Hb : Hp) (env : Env) (σ : L2.St) (H : Hp) (w : W) (v : V) : Prop := match w with
  | .val d => Rp K Hb d v
  | .cel i => σ[i]? = some (some v)
  | .tmp oc => ∃ a, v = .ref a ∧ Hb a = none ∧ f.Fr a = none ∧ Cont K Hb H a oc ∧ ∀ (i : Nat) (oc' : OC), env[i]? = some (some (.own oc')) → σ[i]? ≠ some (some (.ref a))
def RS (K : PySem.W.Frag) (Hb : Hp) (σ : L2.St) (w : W) (v : V) : Prop := match w with
  | .val d => Rp K Hb d v
  | .cel i => σ[i]? = some (some v)
  | .tmp _ => False
def fzv : W → W
  | .tmp oc => .val oc.fz
  | w => w
section
variable {K : PySem.W.Frag} {c : VC} {f : Fm} {Hb Hb' H H' : Hp} {env : Env} {σ : L2.St} {w : W} {v : V} {d : D}
theorem RS.mn (h : RS K Hb σ w v) (e : Same Hb Hb') : RS K Hb' σ w v := by
  cases w with
  | val d => exact Rp.mn h e
  | cel i => exact h
  | tmp _ => exact h
theorem Rl.cel (R : Rl K c f Hb env σ H) {i : Nat} {m : M} (e : env[i]? = some (some m)) : ∃ v, σ[i]? = some (some v) ∧ RR K Hb H m.view v := by
  cases m with
  | val d =>
    obtain ⟨v, h1, h2⟩ := R.val e
    exact ⟨v, h1, h2.rr R.sub⟩
  | own oc =>
    obtain ⟨a, h1, _, _, h2⟩ := R.own e
    exact ⟨_, h1, h2.rr⟩
theorem Rl.rd (R : Rl K c f Hb env σ H) (h : RW K f Hb env σ H w v) (e : view w env = some d) : RR K Hb H d v := by
  cases w with
  | val d' =>
    have e' : d' = d := Option.some.inj e
    subst e'
    exact Rp.rr h R.sub
  | cel i =>
    have h : σ[i]? = some (some v) := h
    unfold view at e
    split at e
    · rename_i d' he; cases he
    · rename_i j he
      cases he
      split at e
      · rename_i m hm
        obtain ⟨v', h1, h2⟩ := R.cel hm
        rw [h] at h1; cases h1
        cases e
        exact h2
      · cases e
    · rename_i j he; cases he
  | tmp oc =>
    have e' : oc.fz = d := Option.some.inj e
    subst e'
    obtain ⟨a, rfl, _, _, h2, _⟩ := h
    exact h2.rr
theorem RS.rw (h : RS K Hb σ w v) : RW K f Hb env σ H w v := by
  cases w with
  | val d => exact h
  | cel i => exact h
  | tmp _ => exact h.elim
structure ExtH (Hb H Hb' H' : Hp) : Prop where
  b : Same Hb Hb'
  h : Same H H'
  n : ∀ a o, H a = some o → Hb' a = Hb a
  s : Same Hb' H'
theorem ExtH.refl (s : Same Hb H) : ExtH Hb H Hb H := ⟨Same.refl _, Same.refl _, fun _ _ _ => rfl, s⟩
theorem TabG.mn {P : Addr} (t : GxR.TabG H P) (e : Same H H') : GxR.TabG H' P := by
  obtain ⟨ps, h1, h2⟩ := t
  exact ⟨ps, e _ _ h1, h2⟩
theorem Rl.ext (R : Rl K c f Hb env σ H) (x : ExtH Hb H Hb' H') : Rl K c f Hb' env σ H' where
  len := R.len
  val := fun e => by
    obtain ⟨v, h1, h2⟩ := R.val e
    exact ⟨v, h1, h2.mn x.b⟩
  own := fun e => by
    obtain ⟨a, h1, h2, h3, h4⟩ := R.own e
    obtain ⟨o, ho⟩ := h4.there
    exact ⟨a, h1, by rw [x.n a o ho]; exact h2, h3, h4.mn x.b fun o q => x.h _ _ q⟩
  inj := R.inj
  sub := x.s
  frm := R.frm.trans x.h
  frb := fun b o e => by rw [x.n b o (R.frm b o e)]; exact R.frb b o e
  tab := fun P hP => by
    obtain ⟨h1, h2, h3⟩ := R.tab P hP
    obtain ⟨ps, e, _⟩ := id h1
    exact ⟨TabG.mn h1 x.h, by rw [x.n P _ e]; exact h2, h3⟩
  fix := R.fix
  xv := R.xv.mn x.b
theorem ExtH.new {p : Addr} {o : HO} (s : Same Hb H) (n : H p = none) : ExtH Hb H (upd Hb p o) (upd H p o) := by
  have nb : Hb p = none := s.free n
  refine ⟨fun b u e => ?_, fun b u e => ?_, fun a u e => ?_, fun b u e => ?_⟩
  · rw [upd_ne (ne_of_none e nb)]; exact e
  · rw [upd_ne (ne_of_none e n)]; exact e
  · rw [upd_ne (ne_of_none e n)]
  · by_cases hb : b = p
    · subst hb; rw [upd_same] at e ⊢; exact e
    · rw [upd_ne hb] at e ⊢; exact s _ _ e
theorem ExtH.newT {p : Addr} {o : HO} (s : Same Hb H) (n : H p = none) : ExtH Hb H Hb (upd H p o) := by
  have k : Same H (upd H p o) := fun b u e => by rw [upd_ne (ne_of_none e n)]; exact e
  exact ⟨Same.refl _, k, fun _ _ _ => rfl, s.trans k⟩
def RO (K : PySem.W.Frag) (Hb' H H' : Hp) (w : W) (v : V) : Prop := match w with
  | .val d => Rp K Hb' d v
  | .cel _ => False
  | .tmp oc => ∃ a, v = .ref a ∧ Hb' a = none ∧ H a = none ∧ Cont K Hb' H' a oc
theorem Rl.ro (R : Rl K c f Hb env σ H) (h : RO K Hb' H H' w v) : RW K f Hb' env σ H' w v := by
  cases w with
  | val d => exact h
  | cel i => exact h.elim
  | tmp oc =>
    obtain ⟨a, e, h1, h2, h3⟩ := h
    refine ⟨a, e, h1, R.frm.free h2, h3, fun i oc' hi q => ?_⟩
    obtain ⟨a', q', _, _, h4⟩ := R.own hi
    rw [q] at q'; cases q'
    obtain ⟨o, ho⟩ := h4.there
    rw [h2] at ho; cases ho
theorem Rl.freeze (R : Rl K c f Hb env σ H) {a : Addr} {oc : OC} (hb : Hb a = none) (hf : f.Fr a = none) (hc : Cont K Hb H a oc) (hn : ∀ (i : Nat) (oc' : OC), env[i]? = some (some (.own oc')) → σ[i]? ≠ some (some (.ref a))) :
    ∃ Hb', Same Hb Hb' ∧ Rl K c f Hb' env σ H ∧ Rp K Hb' oc.fz (.ref a) := by
  obtain ⟨o, ho⟩ := hc.there
  have s : Same Hb (upd Hb a o) := fun b u e => by rw [upd_ne (ne_of_none e hb)]; exact e
  refine ⟨upd Hb a o, s, ⟨R.len, fun e => ?_, fun {i oc'} e => ?_, R.inj, fun b u e => ?_, R.frm, fun b u e => ?_, fun P hP => ?_, R.fix, R.xv.mn s⟩, ?_⟩
  · obtain ⟨v, h1, h2⟩ := R.val e
    exact ⟨v, h1, h2.mn s⟩
  · obtain ⟨a', h1, h2, h3, h4⟩ := R.own e
    have ne : a' ≠ a := by rintro rfl; exact hn i oc' e h1
    exact ⟨a', h1, by rw [upd_ne ne]; exact h2, h3, h4.mn s fun _ q => q⟩
  · by_cases hba : b = a
    · subst hba; rw [upd_same] at e; cases e; exact ho
    · rw [upd_ne hba] at e; exact R.sub _ _ e
  · rw [upd_ne (ne_of_none e hf)]; exact R.frb b u e
  · obtain ⟨h1, h2, h3⟩ := R.tab P hP
    exact ⟨h1, by rw [upd_ne (hc.notab h1)]; exact h2, h3⟩
  · cases oc with
    | lst ds =>
      obtain ⟨vs, e, r⟩ := hc
      rw [ho] at e; cases e
      exact .lst upd_same (r.mn s)
    | ins C fs =>
      obtain ⟨dx, gs, e, r⟩ := hc
      rw [ho] at e; cases e
      exact .obj upd_same (r.mn s)
theorem Rl.fzv (R : Rl K c f Hb env σ H) (h : RW K f Hb env σ H w v) : ∃ Hb', Same Hb Hb' ∧ Rl K c f Hb' env σ H ∧ RS K Hb' σ (fzv w) v := by
  cases w with
  | val d => exact ⟨Hb, Same.refl _, R, h⟩
  | cel i => exact ⟨Hb, Same.refl _, R, h⟩
  | tmp oc =>
    obtain ⟨a, rfl, h1, h2, h3, h4⟩ := h
    exact R.freeze h1 h2 h3 h4
def fz (w : W) (env : Env) (k : D → Env → Prop) : Prop := match w with
  | .val d => k d env
  | .tmp oc => k oc.fz env
  | .cel i => match env[i]? with
    | some (some (.val d)) => k d env
    | some (some (.own oc)) => k oc.fz (env.set i (some (.val oc.fz)))
    | _ => False
@[simp] theorem fz_val {d : D} {env : Env} {k : D → Env → Prop} : fz (.val d) env k = k d env := rfl
@[simp] theorem fz_tmp {oc : OC} {env : Env} {k : D → Env → Prop} : fz (.tmp oc) env k = k oc.fz env := rfl
def fzC (o : Option (Option M)) (i : Nat) (env : Env) (k : D → Env → Prop) : Prop := match o with
  | some (some (.val d)) => k d env
  | some (some (.own oc)) => k oc.fz (env.set i (some (.val oc.fz)))
  | _ => False
@[simp] theorem fz_cel {i : Nat} {env : Env} {k : D → Env → Prop} : fz (.cel i) env k = fzC env[i]? i env k := rfl
@[simp] theorem fzC_val {i : Nat} {d : D} {env : Env} {k : D → Env → Prop} : fzC (some (some (.val d))) i env k = k d env := rfl
@[simp] theorem fzC_own {i : Nat} {oc : OC} {env : Env} {k : D → Env → Prop} : fzC (some (some (.own oc))) i env k = k oc.fz (env.set i (some (.val oc.fz))) := rfl
@[simp] theorem fzC_n {i : Nat} {env : Env} {k : D → Env → Prop} : fzC (some none) i env k = False := rfl
@[simp] theorem fzC_0 {i : Nat} {env : Env} {k : D → Env → Prop} : fzC none i env k = False := rfl
@[simp] theorem fzv_val {d : D} : fzv (.val d) = .val d := rfl
@[simp] theorem fzv_cel {i : Nat} : fzv (.cel i) = .cel i := rfl
@[simp] theorem fzv_tmp {oc : OC} : fzv (.tmp oc) = .val oc.fz := rfl
@[simp] theorem view_val {d : D} {env : Env} : view (.val d) env = some d := rfl
@[simp] theorem view_tmp {oc : OC} {env : Env} : view (.tmp oc) env = some oc.fz := rfl
def viewC (o : Option (Option M)) : Option D := match o with
  | some (some m) => some m.view
  | _ => none
@[simp] theorem view_cel {i : Nat} {env : Env} : view (.cel i) env = viewC env[i]? := rfl
@[simp] theorem viewC_m {m : M} : viewC (some (some m)) = some m.view := rfl
@[simp] theorem viewC_n : viewC (some none) = none := rfl
@[simp] theorem viewC_0 : viewC none = none := rfl
theorem set_get {α : Type} {l : List α} {i j : Nat} {x y : α} (h : (l.set i x)[j]? = some y) : (i = j ∧ y = x) ∨ (i ≠ j ∧ l[j]? = some y) := by
  by_cases e : i = j
  · subst e
    by_cases hl : i < l.length
    · rw [List.getElem?_set_self hl] at h; cases h; exact .inl ⟨rfl, rfl⟩
    · rw [List.getElem?_eq_none (by simpa using hl)] at h; cases h
  · rw [List.getElem?_set_ne e] at h; exact .inr ⟨e, h⟩
theorem Rl.fz (R : Rl K c f Hb env σ H) (h : RW K f Hb env σ H w v) {k : D → Env → Prop} (q : fz w env k) : ∃ d env' Hb', Same Hb Hb' ∧ Rl K c f Hb' env' σ H ∧ Rp K Hb' d v ∧ k d env' := by
  cases w with
  | val d => exact ⟨d, env, Hb, Same.refl _, R, h, q⟩
  | tmp oc =>
    obtain ⟨a, rfl, h1, h2, h3, h4⟩ := h
    obtain ⟨Hb', s, R', r⟩ := R.freeze h1 h2 h3 h4
    exact ⟨_, env, Hb', s, R', r, q⟩
  | cel i =>
    have h : σ[i]? = some (some v) := h
    unfold VL.fz at q
    split at q
    · rename_i e; cases e
    · rename_i e; cases e
    · rename_i j e
      cases e
      split at q
      · rename_i d hd
        obtain ⟨v', h1, h2⟩ := R.val hd
        rw [h] at h1; cases h1
        exact ⟨d, env, Hb, Same.refl _, R, h2, q⟩
      · rename_i oc hd
        obtain ⟨a, h1, h2, h3, h4⟩ := R.own hd
        rw [h] at h1; cases h1
        have R0 : Rl K c f Hb (env.set i none) σ H := by
          refine ⟨by simpa using R.len, fun {j d} e => ?_, fun {j oc'} e => ?_, fun {j k o1 o2 b} e1 e2 e3 e4 => ?_, R.sub, R.frm, R.frb, R.tab, R.fix, R.xv⟩
          · rcases set_get e with ⟨_, e⟩ | ⟨_, e⟩
            · cases e
            · exact R.val e
          · rcases set_get e with ⟨_, e⟩ | ⟨_, e⟩
            · cases e
            · exact R.own e
          · rcases set_get e1 with ⟨_, e1⟩ | ⟨_, e1⟩
            · cases e1
            · rcases set_get e2 with ⟨_, e2⟩ | ⟨_, e2⟩
              · cases e2
              · exact R.inj e1 e2 e3 e4
        obtain ⟨Hb', s, R', r⟩ := R0.freeze h2 h3 h4 (fun j oc' e z => by
          rcases set_get e with ⟨_, e⟩ | ⟨ne, e⟩
          · cases e
          · exact ne (R.inj hd e h z))
        refine ⟨_, _, Hb', s, ⟨by simpa using R.len, fun {j d} e => ?_, fun {j oc'} e => ?_, fun {j k o1 o2 b} e1 e2 e3 e4 => ?_, R'.sub, R'.frm, R'.frb, R'.tab, R'.fix, R'.xv⟩, r, q⟩
        · rcases set_get e with ⟨ee, e2⟩ | ⟨ne, e2⟩
          · cases e2; subst ee; exact ⟨_, h, r⟩
          · exact R'.val (by rw [List.getElem?_set_ne ne]; exact e2)
        · rcases set_get e with ⟨ee, e⟩ | ⟨ne, e⟩
          · cases e
          · exact R'.own (by rw [List.getElem?_set_ne ne]; exact e)
        · rcases set_get e1 with ⟨_, e1⟩ | ⟨ne1, e1⟩
          · cases e1
          · rcases set_get e2 with ⟨_, e2⟩ | ⟨ne2, e2⟩
            · cases e2
            · exact R.inj e1 e2 e3 e4
      · exact q.elim
end
end VL
set_option Elab.async false
set_option linter.all false
set_option maxRecDepth 100000
set_option maxHeartbeats 4000000
namespace VL
open PySem PySem.Spec PyProof.Rows L2
variable [CM]
abbrev VQ := W → Env → Prop
abbrev VX := Str → List (Str × D) → Env → Prop
abbrev VT := Env → VQ → VX → Prop
abbrev VTT := Env → (Bool → Env → Prop) → VX → Prop
abbrev VTA := Env → (List W → Env → Prop) → VX → Prop
noncomputable def isXb (C X : Str) : Bool := @decide (C = X ∨ X = "CubeError") (Classical.propDecidable _)
structure IsExc (K : PySem.W.Frag) (C : Str) : Prop where
  ex : ExcC K (CM.at_ C)
  sub : ∀ Y ∈ CM.xs, PySem.W.exmOne K (.ref (CM.at_ C)) (.ref (CM.at_ Y)) = some (isXb C Y) ∧ PySem.W.kitOne K (.ref (CM.at_ C)) (.ref (CM.at_ Y)) = some (isXb C Y)
  ve : PySem.W.kitOne K (.ref (CM.at_ C)) (.type "ValueError") = some true
  cl : PySem.W.isClsIn K (CM.at_ C) = true
  no : ∀ f : Str, f = "name" ∨ f = "at" ∨ f = "count" → PySem.W.findIn K (.ref (CM.at_ C)) f = some none
def XR (K : PySem.W.Frag) (C : Str) (Hb H : Hp) (d : Option Addr) (fs : List (Str × D)) : Prop :=
  IsExc K C ∧ ((d = none ∧ fs = []) ∨ (fs ≠ [] ∧ ∃ dd gs, d = some dd ∧ Hb dd = some (.xd gs) ∧ RpF K Hb fs gs))
def PX (K : PySem.W.Frag) (c : VC) (f : Fm) (Wx : WX) (Hb : Hp) (σ : L2.St) (QX : VX) : Prop :=
  ∀ C fs env' d H' Hb', Same Hb Hb' → Rl K c f Hb' env' σ H' → XR K C Hb' H' d fs → QX C fs env' → Wx (.ref (CM.at_ C)) d σ H'
theorem PX.mn {K : PySem.W.Frag} {c : VC} {f : Fm} {Wx : WX} {Hb Hb' : Hp} {σ : L2.St} {QX : VX} (h : PX K c f Wx Hb σ QX) (s : Same Hb Hb') : PX K c f Wx Hb' σ QX :=
  fun C fs env' d H' Hb2 s2 R x q => h C fs env' d H' Hb2 (s.trans s2) R x q
def SimE (K : PySem.W.Frag) (c : VC) (Wx : WX) (te : TE) (t : VT) : Prop := ∀ (f : Fm) (Hb : Hp) (env : Env) (σ : L2.St) (H : Hp) (Q : VQ) (QX : VX) (Q' : VK), Rl K c f Hb env σ H → t env Q QX → PX K c f Wx Hb σ QX →
  (∀ w env' v H' Hb', Same Hb Hb' → Rl K c f Hb' env' σ H' → RW K f Hb' env' σ H' w v → Q w env' → Q' v H') → te σ H Q'
def SimT (K : PySem.W.Frag) (c : VC) (Wx : WX) (te : TT) (t : VTT) : Prop := ∀ (f : Fm) (Hb : Hp) (env : Env) (σ : L2.St) (H : Hp) (Q : Bool → Env → Prop) (QX : VX) (Q' : Bool → Hp → Prop), Rl K c f Hb env σ H → t env Q QX → PX K c f Wx Hb σ QX →
  (∀ b env' H' Hb', Same Hb Hb' → Rl K c f Hb' env' σ H' → Q b env' → Q' b H') → te σ H Q'
abbrev RSs (K : PySem.W.Frag) (Hb : Hp) (σ : L2.St) : List W → List V → Prop := Paired (RS K Hb σ)
def SimA (K : PySem.W.Frag) (c : VC) (Wx : WX) (te : TA) (t : VTA) : Prop := ∀ (f : Fm) (Hb : Hp) (env : Env) (σ : L2.St) (H : Hp) (Q : List W → Env → Prop) (QX : VX) (Q' : List V → Hp → Prop), Rl K c f Hb env σ H → t env Q QX → PX K c f Wx Hb σ QX →
  (∀ ws env' vs H' Hb', Same Hb Hb' → Rl K c f Hb' env' σ H' → RSs K Hb' σ ws vs → Q ws env' → Q' vs H') → te σ H Q'
structure VE (X : Cx) (c : VC) (Wx : WX) (e : Expr) (te : TE) (t : VT) : Prop where
  pe : PE X e te
  sim : SimE X.K c Wx te t
structure VTe (X : Cx) (c : VC) (Wx : WX) (e : Expr) (te : TT) (t : VTT) : Prop where
  pt : PT X e te
  sim : SimT X.K c Wx te t
structure VW (X : Cx) (c : VC) (Wx : WX) (e : Expr) (te : TT) (t : VTT) : Prop where
  pw : PW X e te
  sim : SimT X.K c Wx te t
structure VA (X : Cx) (c : VC) (Wx : WX) (es : List Expr) (te : TA) (t : VTA) : Prop where
  pa : PA X es te
  sim : SimA X.K c Wx te t
theorem RSs.mn {K : PySem.W.Frag} {Hb Hb' : Hp} {σ : L2.St} : ∀ {ws : List W} {vs : List V}, RSs K Hb σ ws vs → Same Hb Hb' → RSs K Hb' σ ws vs
  | [], _, h, _ => by cases h; exact .nil
  | w :: ws, _, h, s => by cases h with | cons a r => exact .cons (RS.mn a s) (RSs.mn r s)
def rd (w : W) (env : Env) (k : D → Prop) : Prop := match view w env with
  | some d => k d
  | none => False
@[simp] theorem rd_val {d : D} {env : Env} {k : D → Prop} : rd (.val d) env k = k d := rfl
@[simp] theorem rd_tmp {oc : OC} {env : Env} {k : D → Prop} : rd (.tmp oc) env k = k oc.fz := rfl
def rdC (o : Option (Option M)) (k : D → Prop) : Prop := match o with
  | some (some m) => k m.view
  | _ => False
@[simp] theorem rd_cel {i : Nat} {env : Env} {k : D → Prop} : rd (.cel i) env k = rdC env[i]? k := by
  show (match (match env[i]? with | some (some m) => some m.view | _ => none) with | some d => k d | none => False) = rdC env[i]? k
  generalize env[i]? = o
  rcases o with _ | _ | m <;> rfl
@[simp] theorem rdC_m {m : M} {k : D → Prop} : rdC (some (some m)) k = k m.view := rfl
@[simp] theorem rdC_n {k : D → Prop} : rdC (some none) k = False := rfl
@[simp] theorem rdC_0 {k : D → Prop} : rdC none k = False := rfl
theorem rd_of {w : W} {env : Env} {k : D → Prop} (h : rd w env k) : ∃ d, view w env = some d ∧ k d := by
  unfold rd at h
  split at h
  · rename_i d e; exact ⟨d, e, h⟩
  · exact h.elim
theorem takes0N {X : Cx} : L2N.Takes X (fun _ _ _ _ => False) := fun _ _ ⟨_, _, _, _, _, _, _, _, _, _, _, _, _, _, _, _, z⟩ => z.elim
section
variable {K : PySem.W.Frag} {c : VC} {Wx : WX} {X : Cx}
@[simp] def vName (i : Nat) : VT := fun env Q _ => match env[i]? with
  | some (some (.val d)) => Q (.val d) env
  | some (some (.own _)) => Q (.cel i) env
  | _ => False
theorem sim_name {i : Nat} : SimE K c Wx (tVar i) (vName i) := by
  intro f Hb env σ H Q QX Q' R q px k
  unfold vName at q
  split at q
  · rename_i d e
    obtain ⟨v, h1, h2⟩ := R.val e
    exact ⟨v, h1, k (.val d) _ _ _ _ (Same.refl _) R h2 q⟩
  · rename_i oc e
    obtain ⟨a, h1, _⟩ := R.own e
    exact ⟨_, h1, k (.cel i) _ _ _ _ (Same.refl _) R h1 q⟩
  · exact q.elim
@[simp] def vC (d : D) : VT := fun env Q _ => Q (.val d) env
theorem sim_c {v : V} {d : D} (h : ∀ H, Rp K H d v) : SimE K c Wx (tC v) (vC d) := fun f Hb env σ H Q QX Q' R q px k => k (.val d) _ _ _ _ (Same.refl _) R (h Hb) q
theorem ve_name (i : Nat) {x : Str} {pos : Pos} (hN : X.N[i]? = some x := by rfl) (hv : Vis X.env.scope x := by first | exact Or.inl rfl | exact Or.inr (Or.inl rfl) | exact Or.inr (Or.inr rfl)) (hd : (x == ("__debug__" : Str)) = false := by decide)
    (hcd : (x == ("__classdict__" : Str)) = false := by decide) : VE X c Wx (.Name x pos) (tVar i) (vName i) := ⟨pe_var hN hv hd hcd, sim_name⟩
theorem ve_int {i : Int} {j pos} : VE X c Wx (.Constant (.int i) j pos) (tC (.int i)) (vC (.int i)) := ⟨pe_int, sim_c fun _ => .int i⟩
theorem ve_bl {b : Bool} {j pos} : VE X c Wx (.Constant (.bool b) j pos) (tC (.bl b)) (vC (.bl b)) := ⟨pe_bl, sim_c fun _ => .bl b⟩
theorem ve_non {j pos} : VE X c Wx (.Constant .none j pos) (tC .non) (vC .non) := ⟨pe_non, sim_c fun _ => .non⟩
theorem ve_str {x : Str} {j pos} : VE X c Wx (.Constant (.str x) j pos) (tC (.str x)) (vC (.str x)) := ⟨pe_str, sim_c fun _ => .str x⟩
structure GlobC (X : Cx) (x : Str) (d : D) (v : V) : Prop where
  at_ : ∃ u, X.mg x = some u ∧ RelV v u
  rp : ∀ H, Rp X.K H d v
theorem ve_glob {x : Str} {d : D} {v : V} {pos : Pos} (G : GlobC X x d v) (hg : Gl X x := by rfl) (hd : (x == ("__debug__" : Str)) = false := by decide) : VE X c Wx (.Name x pos) (tC v) (vC d) := by
  obtain ⟨u, h1, h2⟩ := G.at_
  exact ⟨pe_glob hg h1 h2 hd, sim_c G.rp⟩
abbrev G2 := D → D → (W → Prop) → Prop
def OpS (K : PySem.W.Frag) (r : R2) (g : G2) : Prop := ∀ (Hb H : Hp) (d1 d2 : D) (v1 v2 : V) (Q : W → Prop) (Q' : VK), Same Hb H → RR K Hb H d1 v1 → RR K Hb H d2 v2 → g d1 d2 Q →
  (∀ w v H' Hb', ExtH Hb H Hb' H' → RO K Hb' H H' w v → Q w → Q' v H') → r v1 v2 H Q'
@[simp] def vOp (g : G2) (ta tb : VT) : VT := fun env Q QX => ta env (fun w1 env1 => tb env1 (fun w2 env2 => rd (fzv w1) env2 fun d1 => rd w2 env2 fun d2 => g d1 d2 fun w => Q w env2) QX) QX
theorem sim_op {r : R2} {g : G2} {ta tb : TE} {va vb : VT} (ho : OpS K r g) (ha : SimE K c Wx ta va) (hb : SimE K c Wx tb vb) : SimE K c Wx (tOp r ta tb) (vOp g va vb) := by
  intro f Hb env σ H Q QX Q' R q px k
  refine ha f Hb env σ H _ QX _ R q px fun w1 env1 v1 H1 Hb1 s1 R1 r1 q1 => ?_
  obtain ⟨Hb1', s1', R1', r1'⟩ := R1.fzv r1
  refine hb f Hb1' env1 σ H1 _ QX _ R1' q1 (px.mn (s1.trans s1')) fun w2 env2 v2 H2 Hb2 s2 R2 r2 q2 => ?_
  obtain ⟨d1, e1, q2⟩ := rd_of q2
  obtain ⟨d2, e2, q2⟩ := rd_of q2
  have rr1 := R2.rd (RS.rw (r1'.mn s2)) e1
  have rr2 := R2.rd r2 e2
  exact ho Hb2 H2 d1 d2 v1 v2 _ Q' R2.sub rr1 rr2 q2 fun w v H' Hb' x ro qw => k w env2 v H' Hb' (((s1.trans s1').trans s2).trans x.b) (R2.ext x) (R2.ro ro) qw
theorem ve_op {op : Operator} {r : R2} {g : G2} {a b : Expr} {ta tb : TE} {va vb : VT} {pos : Pos} (ho : OpR X (binaryOp op) r) (hs : OpS X.K r g) (ha : VE X c Wx a ta va) (hb : VE X c Wx b tb vb) : VE X c Wx (.BinOp a op b pos) (tOp r ta tb) (vOp g va vb) :=
  ⟨pe_op ho ha.pe hb.pe, sim_op hs ha.sim hb.sim⟩
theorem OpR.or {f : Value → Value → Sem Value} {r r' : R2} (h : OpR X f r) (h' : OpR X f r') : OpR X f (fun x y H Q => r x y H Q ∨ r' x y H Q) := by
  intro pins s σ H x y v u Q I rx ry q
  rcases q with q | q
  · exact h pins s σ H x y v u Q I rx ry q
  · exact h' pins s σ H x y v u Q I rx ry q
theorem Rp.tupN {Hb H : Hp} {p : Addr} {o : Obj} {ds : List D} {vs : List V} (s : Same Hb H) (n : H p = none) (z : o.dict = none) (r : RpL K Hb ds vs) : Rp K (upd Hb p (.frz o (.tup vs))) (.tup ds) (.ref p) :=
  .tup (newT_frz z) (r.mn (ExtH.new (o := .frz o (.tup vs)) s n).b)
theorem RO.lstN {Hb H : Hp} {p : Addr} {ds : List D} {vs : List V} (s : Same Hb H) (n : H p = none) (r : RpL K Hb ds vs) : RO K Hb H (upd H p (.lst vs)) (.tmp (.lst ds)) (.ref p) :=
  ⟨p, rfl, s.free n, n, vs, upd_same, r⟩
@[simp] def dAdd : G2
  | .int i, .int j, Q => Q (.val (.int (i + j)))
  | .str x, .str y, Q => x.length + y.length ≤ sizeLine ∧ Q (.val (.str (x ++ y)))
  | .tup xs, .tup ys, Q => xs.length + ys.length ≤ sizeLine ∧ Q (.val (.tup (xs ++ ys)))
  | .lst xs, .lst ys, Q => xs.length + ys.length ≤ sizeLine ∧ Q (.tmp (.lst (xs ++ ys)))
  | _, _, _ => False
def rAdd (K : PySem.W.Frag) : R2 := fun x y H Q => rI0 (fun i j => .int (i + j)) x y H Q ∨ ((∃ i j, x = .str i ∧ y = .str j ∧ i.length + j.length ≤ sizeLine ∧ Q (.str (i ++ j)) H) ∨ (rCatN K x y H Q ∨ rCat x y H Q))
theorem opr_add : OpR X (binaryOp .Add) (rAdd X.K) := OpR.or op_add (OpR.or op_add_str (OpR.or op_catN op_cat))
theorem ops_add : OpS K (rAdd K) dAdd := by
  intro Hb H d1 d2 v1 v2 Q Q' s r1 r2 g k
  unfold dAdd at g
  split at g
  · cases r1; cases r2
    exact .inl ⟨_, _, rfl, rfl, k (.val _) _ _ _ (.refl s) (.int _) g⟩
  · cases r1; cases r2
    exact .inr (.inl ⟨_, _, rfl, rfl, g.1, k (.val _) _ _ _ (.refl s) (.str _) g.2⟩)
  · rename_i xs ys
    cases r1 with
    | tup s1 p1 =>
      cases r2 with
      | tup s2 p2 =>
        refine .inr (.inr (.inl ⟨_, _, _, _, rfl, rfl, same_seqT s s1.1, same_seqT s s2.1, by rw [p1.length, p2.length]; exact g.1, fun e => ?_, fun e1 e2 => ?_, fun e1 e2 p o np zz => ?_⟩))
        · subst e
          cases p1
          exact k (.val _) _ _ _ (.refl s) (.tup s2 p2) g.2
        · subst e2
          cases p2
          have g2 := g.2
          rw [List.append_nil] at g2
          exact k (.val _) _ _ _ (.refl s) (.tup s1 p1) g2
        · exact k (.val _) _ _ _ (ExtH.new s np) (Rp.tupN s np zz (p1.app p2)) g.2
  · cases r1 with
    | lst s1 p1 =>
      cases r2 with
      | lst s2 p2 =>
        refine .inr (.inr (.inr ⟨_, _, _, _, rfl, rfl, s1, s2, by rw [p1.length, p2.length]; exact g.1, fun p np => ?_⟩))
        exact k (.tmp (.lst _)) _ _ _ (ExtH.newT s np) (RO.lstN s np (p1.app p2)) g.2
  · exact g.elim
@[simp] def dSub : G2
  | .int i, .int j, Q => Q (.val (.int (i - j)))
  | _, _, _ => False
theorem ops_sub : OpS K (rI0 fun i j => .int (i - j)) dSub := by
  intro Hb H d1 d2 v1 v2 Q Q' s r1 r2 g k
  unfold dSub at g
  split at g
  · cases r1; cases r2
    exact ⟨_, _, rfl, rfl, k (.val _) _ _ _ (.refl s) (.int _) g⟩
  · exact g.elim
@[simp] def dMul : G2
  | .int i, .int j, Q => (CMul i j ∨ CMulW i j) ∧ Q (.val (.int (i * j)))
  | .lst xs, .int n, Q => -(2 ^ 63) ≤ n ∧ n < 2 ^ 63 ∧ xs.length * n.toNat ≤ sizeLine ∧ Q (.tmp (.lst (List.replicate n.toNat xs).flatten))
  | _, _, _ => False
theorem RpL.rep {Hb : Hp} {ds : List D} {vs : List V} (h : RpL K Hb ds vs) : ∀ n : Nat, RpL K Hb (List.replicate n ds).flatten (List.replicate n vs).flatten
  | 0 => .nil
  | n + 1 => by
    simp only [List.replicate_succ, List.flatten_cons]
    exact h.app (RpL.rep h n)
abbrev rMulA : R2 := fun x y H Q => rI CMul (fun i j => .int (i * j)) x y H Q ∨ (rI CMulW (fun i j => .int (i * j)) x y H Q ∨ rRep x y H Q)
theorem ops_mul : OpS K rMulA dMul := by
  intro Hb H d1 d2 v1 v2 Q Q' s r1 r2 g k
  unfold dMul at g
  split at g
  · cases r1; cases r2
    rcases g.1 with z | z
    · exact .inl ⟨_, _, rfl, rfl, z, k (.val _) _ _ _ (.refl s) (.int _) g.2⟩
    · exact .inr (.inl ⟨_, _, rfl, rfl, z, k (.val _) _ _ _ (.refl s) (.int _) g.2⟩)
  · cases r2
    cases r1 with
    | lst s1 p1 =>
      refine .inr <| .inr ⟨_, _, _, rfl, rfl, s1, g.1, g.2.1, by rw [p1.length]; exact g.2.2.1, fun p np => ?_⟩
      exact k (.tmp (.lst _)) _ _ _ (ExtH.newT s np) (RO.lstN s np (RpL.rep p1 _)) g.2.2.2
  · exact g.elim
theorem opr_mul : OpR X (binaryOp .Mult) rMulA := OpR.or op_mul (OpR.or op_mulW op_rep)
@[simp] def dDiv : G2
  | .int i, .int j, Q => (CDivW i j ∨ CDivN i j) ∧ Q (.val (.int (i.fdiv j)))
  | _, _, _ => False
theorem opr_div : OpR X (binaryOp .FloorDiv) (fun x y H Q => rI CDivW (fun i j => .int (i / j)) x y H Q ∨ rI CDivN (fun i j => .int (i.fdiv j)) x y H Q) := OpR.or op_fdivW op_fdivN
theorem ops_div : OpS K (fun x y H Q => rI CDivW (fun i j => .int (i / j)) x y H Q ∨ rI CDivN (fun i j => .int (i.fdiv j)) x y H Q) dDiv := by
  intro Hb H d1 d2 v1 v2 Q Q' s r1 r2 g k
  unfold dDiv at g
  split at g
  · cases r1; cases r2
    rcases g.1 with z | z
    · refine .inl ⟨_, _, rfl, rfl, z, k (.val _) _ _ _ (.refl s) (.int _) ?_⟩
      rw [← Int.fdiv_eq_ediv_of_nonneg _ (Int.le_of_lt z.1)]
      exact g.2
    · exact .inr ⟨_, _, rfl, rfl, z, k (.val _) _ _ _ (.refl s) (.int _) g.2⟩
  · exact g.elim
@[simp] def dMod : G2
  | .int i, .int j, Q => j ≠ 0 ∧ Q (.val (.int (i.fmod j)))
  | _, _, _ => False
theorem ops_mod : OpS K (rI (fun _ j => j ≠ 0) fun i j => .int (i.fmod j)) dMod := by
  intro Hb H d1 d2 v1 v2 Q Q' s r1 r2 g k
  unfold dMod at g
  split at g
  · cases r1; cases r2
    exact ⟨_, _, rfl, rfl, g.1, k (.val _) _ _ _ (.refl s) (.int _) g.2⟩
  · exact g.elim
@[simp] def dPow : G2
  | .int i, .int j, Q => CPow i j ∧ Q (.val (.int (i ^ j.toNat)))
  | _, _, _ => False
theorem ops_pow : OpS K (rI CPow fun i j => .int (i ^ j.toNat)) dPow := by
  intro Hb H d1 d2 v1 v2 Q Q' s r1 r2 g k
  unfold dPow at g
  split at g
  · cases r1; cases r2
    exact ⟨_, _, rfl, rfl, g.1, k (.val _) _ _ _ (.refl s) (.int _) g.2⟩
  · exact g.elim
@[simp] def vUn (g : D → (W → Prop) → Prop) (ta : VT) : VT := fun env Q QX => ta env (fun w1 env1 => rd w1 env1 fun d1 => g d1 fun w => Q w env1) QX
@[simp] def dNeg : D → (W → Prop) → Prop
  | .int i, Q => Q (.val (.int (-i)))
  | _, _ => False
theorem ve_neg {a : Expr} {ta : TE} {va : VT} {pos : Pos} (ha : VE X c Wx a ta va) : VE X c Wx (.UnaryOp .USub a pos) (tUn (rU fun i => .int (-i)) ta) (vUn dNeg va) := by
  refine ⟨pe_un un_neg ha.pe, fun f Hb env σ H Q QX Q' R q px k => ?_⟩
  refine ha.sim f Hb env σ H _ QX _ R q px fun w1 env1 v1 H1 Hb1 s1 R1 r1 q1 => ?_
  obtain ⟨d1, e1, q1⟩ := rd_of q1
  have rr := R1.rd r1 e1
  unfold dNeg at q1
  split at q1
  · cases rr
    exact ⟨_, rfl, k (.val (.int _)) _ _ _ _ s1 R1 (.int _) q1⟩
  · exact q1.elim
theorem ve_cmp {op : CmpOp} {r : R2} {g : G2} {a b : Expr} {ta tb : TE} {va vb : VT} {pos : Pos} (ho : OpR X (compareOp op) r) (hs : OpS X.K r g) (hm : behindInMarks op b = false) (ha : VE X c Wx a ta va) (hb : VE X c Wx b tb vb) : VE X c Wx (.Compare a [op] [b] pos) (tOp r ta tb) (vOp g va vb) :=
  ⟨pe_cmpR ho ha.pe hb.pe hm, sim_op hs ha.sim hb.sim⟩
@[simp] def vTest (t : VT) : VTT := fun env Q QX => t env (fun w env1 => match w with
  | .val (.bl b) => Q b env1
  | _ => False) QX
theorem sim_test {te : TE} {t : VT} (h : SimE K c Wx te t) : SimT K c Wx (tTest te) (vTest t) := by
  intro f Hb env σ H Q QX Q' R q px k
  refine h f Hb env σ H _ QX _ R q px fun w env1 v1 H1 Hb1 s1 R1 r1 q1 => ?_
  split at q1
  · cases r1
    exact ⟨_, rfl, k _ _ _ _ s1 R1 q1⟩
  · exact q1.elim
theorem vt_cmp {op : CmpOp} {r : R2} {g : G2} {a b : Expr} {ta tb : TE} {va vb : VT} {pos : Pos} (ho : OpR X (compareOp op) r) (hs : OpS X.K r g) (hm : behindInMarks op b = false) (ha : VE X c Wx a ta va) (hb : VE X c Wx b tb vb) : VTe X c Wx (.Compare a [op] [b] pos) (tTest (tOp r ta tb)) (vTest (vOp g va vb)) :=
  ⟨pt_cmpR ho ha.pe hb.pe hm, sim_test (sim_op hs ha.sim hb.sim)⟩
theorem vt_val {e : Expr} {te : TE} {t : VT} (h : VE X c Wx e te t) (he : ∀ whole, isTrue e X.env whole = (do let v ← whole; standAt e.pos; holding [v] (truthy v)) := by intro _; rfl) : VTe X c Wx e (tB te) (vTest t) :=
  ⟨pt_val h.pe he, sim_test h.sim⟩
@[simp] def cI (p : Int → Int → Bool) : G2
  | .int i, .int j, Q => Q (.val (.bl (p i j)))
  | _, _, _ => False
mutual
def toPy : D → Option PyData
  | .non => some .none
  | .bl b => some (.bool b)
  | .int i => some (.int i)
  | .str x => some (.str x)
  | .tup ds => (toPys ds).map .tuple
  | .lst ds => (toPys ds).map .list
  | .obj _ _ => none
  | .scr _ => none
def toPys : List D → Option (List PyData)
  | [] => some []
  | d :: ds => match toPy d, toPys ds with
    | some x, some xs => some (x :: xs)
    | _, _ => none
end
mutual
theorem Rp.dp {H : Hp} : ∀ (d : D) (v : V) (p : PyData), Rp K H d v → toPy d = some p → Dp K H v p
  | .non, _, _, h, e => by cases h; unfold toPy at e; cases e; exact .non
  | .bl b, _, _, h, e => by cases h; unfold toPy at e; cases e; exact .bl b
  | .int i, _, _, h, e => by cases h; unfold toPy at e; cases e; exact .int i
  | .str x, _, _, h, e => by cases h; unfold toPy at e; cases e; exact .str x
  | .tup ds, _, _, h, e => by
    cases h with
    | tup s r =>
      unfold toPy at e
      cases q : toPys ds with
      | none => rw [q] at e; cases e
      | some ps => rw [q] at e; cases e; exact .tup s.1 (RpL.dp ds _ ps r q)
  | .lst ds, _, _, h, e => by
    cases h with
    | lst s r =>
      unfold toPy at e
      cases q : toPys ds with
      | none => rw [q] at e; cases e
      | some ps => rw [q] at e; cases e; exact .lst (.of s) (RpL.dp ds _ ps r q)
  | .obj _ _, _, _, _, e => by unfold toPy at e; cases e
  | .scr _, _, _, _, e => by unfold toPy at e; cases e
theorem RpL.dp {H : Hp} : ∀ (ds : List D) (vs : List V) (ps : List PyData), RpL K H ds vs → toPys ds = some ps → DpAll K H vs ps
  | [], _, _, h, e => by cases h; unfold toPys at e; cases e; exact .nil
  | d :: ds, _, _, h, e => by
    cases h with
    | cons a r =>
      unfold toPys at e
      split at e
      · rename_i x xs e1 e2
        cases e
        exact .cons (Rp.dp d _ x a e1) (RpL.dp ds _ xs r e2)
      · cases e
end
def dEqG (neg : Bool) (a b : D) (Q : W → Prop) : Prop := match toPy a, toPy b with
  | some x, some y => SeqAt.shaped x = true ∧ SeqAt.shaped y = true ∧ Q (.val (.bl (if neg then !PyData.eqv x y else PyData.eqv x y)))
  | _, _ => False
@[simp] def dEq (neg : Bool) : G2
  | .int i, .int j, Q => Q (.val (.bl (neg ^^ decide (i = j))))
  | .str i, .str j, Q => Q (.val (.bl (neg ^^ decide (i = j))))
  | .bl i, .bl j, Q => Q (.val (.bl (neg ^^ decide (i = j))))
  | .non, .non, Q => Q (.val (.bl (neg ^^ true)))
  | .int _, .non, Q => Q (.val (.bl neg))
  | .non, .int _, Q => Q (.val (.bl neg))
  | .str _, .non, Q => Q (.val (.bl neg))
  | .non, .str _, Q => Q (.val (.bl neg))
  | .int _, .str _, Q => Q (.val (.bl neg))
  | .str _, .int _, Q => Q (.val (.bl neg))
  | a, b, Q => dEqG neg a b Q
def rEqA (K : PySem.W.Frag) : R2 := fun x y H Q => rEq x y H Q ∨ rEqD K x y H Q
def rNeA (K : PySem.W.Frag) : R2 := fun x y H Q => rNe x y H Q ∨ rNeD K x y H Q
theorem ops_eq : OpS K (rEqA K) (dEq false) := by
  intro Hb H d1 d2 v1 v2 Q Q' s r1 r2 g k
  have gen : dEqG false d1 d2 Q → rEqA K v1 v2 H Q' := fun g => by
    unfold dEqG at g
    split at g
    · rename_i x y e1 e2
      exact .inr ⟨x, y, Rp.dp _ _ _ (r1.up s) e1, Rp.dp _ _ _ (r2.up s) e2, g.1, g.2.1, k (.val _) _ _ _ (.refl s) (.bl _) g.2.2⟩
    · exact g.elim
  unfold dEq at g
  split at g
  · cases r1; cases r2
    refine .inl ⟨rfl, k (.val _) _ _ _ (.refl s) (.bl _) ?_⟩
    simpa using g
  · cases r1; cases r2
    refine .inl ⟨rfl, k (.val _) _ _ _ (.refl s) (.bl _) ?_⟩
    simpa using g
  · cases r1; cases r2
    refine .inl ⟨rfl, k (.val _) _ _ _ (.refl s) (.bl _) ?_⟩
    simpa using g
  all_goals first
    | (cases r1; cases r2; exact .inl ⟨rfl, k (.val _) _ _ _ (.refl s) (.bl _) (by simpa using g)⟩)
    | exact gen g
theorem ops_ne : OpS K (rNeA K) (dEq true) := by
  intro Hb H d1 d2 v1 v2 Q Q' s r1 r2 g k
  have gen : dEqG true d1 d2 Q → rNeA K v1 v2 H Q' := fun g => by
    unfold dEqG at g
    split at g
    · rename_i x y e1 e2
      exact .inr ⟨x, y, Rp.dp _ _ _ (r1.up s) e1, Rp.dp _ _ _ (r2.up s) e2, g.1, g.2.1, k (.val _) _ _ _ (.refl s) (.bl _) g.2.2⟩
    · exact g.elim
  unfold dEq at g
  split at g
  · cases r1; cases r2
    refine .inl ⟨rfl, k (.val _) _ _ _ (.refl s) (.bl _) ?_⟩
    simpa using g
  · cases r1; cases r2
    refine .inl ⟨rfl, k (.val _) _ _ _ (.refl s) (.bl _) ?_⟩
    simpa using g
  · cases r1; cases r2
    refine .inl ⟨rfl, k (.val _) _ _ _ (.refl s) (.bl _) ?_⟩
    simpa using g
  all_goals first
    | (cases r1; cases r2; exact .inl ⟨rfl, k (.val _) _ _ _ (.refl s) (.bl _) (by simpa using g)⟩)
    | exact gen g
end
end VL
set_option Elab.async false
set_option linter.all false
set_option maxRecDepth 100000
set_option maxHeartbeats 4000000
namespace VL
open PySem PySem.Spec PyProof.Rows L2
variable [CM]
section
variable {K : PySem.W.Frag} {c : VC} {Wx : WX} {X : Cx}
@[simp] def vAndT (a b : VTT) : VTT := fun env Q QX => a env (fun k env1 => if k = true then b env1 Q QX else Q false env1) QX
@[simp] def vOrT (a b : VTT) : VTT := fun env Q QX => a env (fun k env1 => if k = true then Q true env1 else b env1 Q QX) QX
@[simp] def vNotT (a : VTT) : VTT := fun env Q QX => a env (fun k env1 => Q (!k) env1) QX
theorem sim_andT {ta tb : TT} {va vb : VTT} (ha : SimT K c Wx ta va) (hb : SimT K c Wx tb vb) : SimT K c Wx (tAnd ta tb) (vAndT va vb) := by
  intro f Hb env σ H Q QX Q' R q px k
  refine ha f Hb env σ H _ QX _ R q px fun b env1 H1 Hb1 s1 R1 q1 => ?_
  cases b with
  | true =>
    rw [if_pos rfl] at q1 ⊢
    exact hb f Hb1 env1 σ H1 Q QX Q' R1 q1 (px.mn s1) fun b env2 H2 Hb2 s2 R2 q2 => k b env2 H2 Hb2 (s1.trans s2) R2 q2
  | false =>
    rw [if_neg Bool.false_ne_true] at q1 ⊢
    exact k _ _ _ _ s1 R1 q1
theorem sim_orT {ta tb : TT} {va vb : VTT} (ha : SimT K c Wx ta va) (hb : SimT K c Wx tb vb) : SimT K c Wx (tOr ta tb) (vOrT va vb) := by
  intro f Hb env σ H Q QX Q' R q px k
  refine ha f Hb env σ H _ QX _ R q px fun b env1 H1 Hb1 s1 R1 q1 => ?_
  cases b with
  | true =>
    rw [if_pos rfl] at q1 ⊢
    exact k _ _ _ _ s1 R1 q1
  | false =>
    rw [if_neg Bool.false_ne_true] at q1 ⊢
    exact hb f Hb1 env1 σ H1 Q QX Q' R1 q1 (px.mn s1) fun b env2 H2 Hb2 s2 R2 q2 => k b env2 H2 Hb2 (s1.trans s2) R2 q2
theorem sim_notT {ta : TT} {va : VTT} (ha : SimT K c Wx ta va) : SimT K c Wx (tNot ta) (vNotT va) := by
  intro f Hb env σ H Q QX Q' R q px k
  exact ha f Hb env σ H _ QX _ R q px fun b env1 H1 Hb1 s1 R1 q1 => k _ _ _ _ s1 R1 q1
theorem vw_and1 {a : Expr} {ta : TT} {va : VTT} {pos : Pos} (h : VTe X c Wx a ta va) : VW X c Wx (.BoolOp .And [a] pos) ta va := ⟨pw_and1 h.pt, h.sim⟩
theorem vw_or1 {a : Expr} {ta : TT} {va : VTT} {pos : Pos} (h : VTe X c Wx a ta va) : VW X c Wx (.BoolOp .Or [a] pos) ta va := ⟨pw_or1 h.pt, h.sim⟩
theorem vw_and {a b : Expr} {rest : List Expr} {ta tb : TT} {va vb : VTT} {pos : Pos} (ha : VTe X c Wx a ta va) (hb : VW X c Wx (.BoolOp .And (b :: rest) pos) tb vb) : VW X c Wx (.BoolOp .And (a :: b :: rest) pos) (tAnd ta tb) (vAndT va vb) := ⟨pw_and ha.pt hb.pw, sim_andT ha.sim hb.sim⟩
theorem vw_or {a b : Expr} {rest : List Expr} {ta tb : TT} {va vb : VTT} {pos : Pos} (ha : VTe X c Wx a ta va) (hb : VW X c Wx (.BoolOp .Or (b :: rest) pos) tb vb) : VW X c Wx (.BoolOp .Or (a :: b :: rest) pos) (tOr ta tb) (vOrT va vb) := ⟨pw_or ha.pt hb.pw, sim_orT ha.sim hb.sim⟩
theorem VW.vt {e : Expr} {ta : TT} {va : VTT} (h : VW X c Wx e ta va) : VTe X c Wx e ta va := ⟨h.pw.pt, h.sim⟩
theorem vt_not {a : Expr} {ta : TT} {va : VTT} {pos : Pos} (h : VTe X c Wx a ta va) : VTe X c Wx (.UnaryOp .Not a pos) (tNot ta) (vNotT va) := ⟨pt_not h.pt, sim_notT h.sim⟩
def asB (w : W) (k : Bool → Prop) : Prop := match w with
  | .val (.bl b) => k b
  | _ => False
@[simp] theorem asB_bl {b : Bool} {k : Bool → Prop} : asB (.val (.bl b)) k = k b := rfl
theorem asB_of {w : W} {k : Bool → Prop} (h : asB w k) : ∃ b, w = .val (.bl b) ∧ k b := by
  unfold asB at h
  split at h
  · exact ⟨_, rfl, h⟩
  · exact h.elim
@[simp] def vAndV (a b : VT) : VT := fun env Q QX => a env (fun w env1 => asB w fun k => if k = true then b env1 Q QX else Q (.val (.bl false)) env1) QX
@[simp] def vOrV (a b : VT) : VT := fun env Q QX => a env (fun w env1 => asB w fun k => if k = true then Q (.val (.bl true)) env1 else b env1 Q QX) QX
@[simp] def vNotV (a : VT) : VT := fun env Q QX => a env (fun w env1 => asB w fun k => Q (.val (.bl (!k))) env1) QX
theorem ve_one {op : BoolOp} {a : Expr} {ta : TE} {va : VT} {pos : Pos} (h : VE X c Wx a ta va) : VE X c Wx (.BoolOp op [a] pos) ta va := ⟨pe_one h.pe, h.sim⟩
theorem ve_and {a b : Expr} {rest : List Expr} {ta tb : TE} {va vb : VT} {pos : Pos} (ha : VE X c Wx a ta va) (hb : VE X c Wx (.BoolOp .And (b :: rest) pos) tb vb) : VE X c Wx (.BoolOp .And (a :: b :: rest) pos) (tAndV ta tb) (vAndV va vb) := by
  refine ⟨pe_and ha.pe hb.pe, fun f Hb env σ H Q QX Q' R q px k => ?_⟩
  refine ha.sim f Hb env σ H _ QX _ R q px fun w1 env1 v1 H1 Hb1 s1 R1 r1 q1 => ?_
  obtain ⟨b, rfl, q0⟩ := asB_of q1
  cases r1
  refine ⟨b, rfl, ?_⟩
  cases b with
  | true =>
    rw [if_pos rfl] at q0 ⊢
    exact hb.sim f Hb1 env1 σ H1 Q QX Q' R1 q0 (px.mn s1) fun w env2 v H2 Hb2 s2 R2 r2 q2 => k w env2 v H2 Hb2 (s1.trans s2) R2 r2 q2
  | false =>
    rw [if_neg Bool.false_ne_true] at q0 ⊢
    exact k (.val (.bl false)) _ _ _ _ s1 R1 (.bl false) q0
theorem ve_not {a : Expr} {ta : TE} {va : VT} {pos : Pos} (ha : VE X c Wx a ta va) : VE X c Wx (.UnaryOp .Not a pos) (tNotV ta) (vNotV va) := by
  refine ⟨pe_not ha.pe, fun f Hb env σ H Q QX Q' R q px k => ?_⟩
  refine ha.sim f Hb env σ H _ QX _ R q px fun w1 env1 v1 H1 Hb1 s1 R1 r1 q1 => ?_
  obtain ⟨b, rfl, q0⟩ := asB_of q1
  cases r1
  exact ⟨b, rfl, k (.val (.bl _)) _ _ _ _ s1 R1 (.bl _) q0⟩
@[simp] def vIf (t : VTT) (a b : VT) : VT := fun env Q QX => t env (fun k env1 => if k = true then a env1 Q QX else b env1 Q QX) QX
theorem ve_if {t a b : Expr} {tt : TT} {ta tb : TE} {vt : VTT} {va vb : VT} {pos : Pos} (ht : VTe X c Wx t tt vt) (ha : VE X c Wx a ta va) (hb : VE X c Wx b tb vb) : VE X c Wx (.IfExp t a b pos) (tIf tt ta tb) (vIf vt va vb) := by
  refine ⟨pe_ifExp ht.pt ha.pe hb.pe, fun f Hb env σ H Q QX Q' R q px k => ?_⟩
  refine ht.sim f Hb env σ H _ QX _ R q px fun b env1 H1 Hb1 s1 R1 q1 => ?_
  cases b with
  | true =>
    rw [if_pos rfl] at q1 ⊢
    exact ha.sim f Hb1 env1 σ H1 Q QX Q' R1 q1 (px.mn s1) fun w env2 v H2 Hb2 s2 R2 r2 q2 => k w env2 v H2 Hb2 (s1.trans s2) R2 r2 q2
  | false =>
    rw [if_neg Bool.false_ne_true] at q1 ⊢
    exact hb.sim f Hb1 env1 σ H1 Q QX Q' R1 q1 (px.mn s1) fun w env2 v H2 Hb2 s2 R2 r2 q2 => k w env2 v H2 Hb2 (s1.trans s2) R2 r2 q2
@[simp] def vNil : VTA := fun env Q _ => Q [] env
@[simp] def vCons (ta : VT) (tr : VTA) : VTA := fun env Q QX => ta env (fun w env1 => tr env1 (fun ws env2 => Q (fzv w :: ws) env2) QX) QX
theorem va_nil : VA X c Wx [] tNil vNil := ⟨pa_nil, fun f Hb env σ H Q QX Q' R q px k => k _ _ _ _ _ (Same.refl _) R .nil q⟩
theorem va_cons {e : Expr} {es : List Expr} {te : TE} {t : TA} {ve : VT} {v : VTA} (h : VE X c Wx e te ve) (hr : VA X c Wx es t v) (hs : starEach (e :: es) X.env = (false, eval e X.env) :: starEach es X.env := by rfl) : VA X c Wx (e :: es) (tCons te t) (vCons ve v) := by
  refine ⟨pa_cons h.pe hr.pa hs, fun f Hb env σ H Q QX Q' R q px k => ?_⟩
  refine h.sim f Hb env σ H _ QX _ R q px fun w1 env1 v1 H1 Hb1 s1 R1 r1 q1 => ?_
  obtain ⟨Hb1', s1', R1', r1'⟩ := R1.fzv r1
  exact hr.sim f Hb1' env1 σ H1 _ QX _ R1' q1 (px.mn (s1.trans s1')) fun ws env2 vs H2 Hb2 s2 R2 r2 q2 => k _ _ _ _ _ ((s1.trans s1').trans s2) R2 (.cons (r1'.mn s2) r2) q2
@[simp] def fzs : List W → Env → (List D → Env → Prop) → Prop
  | [], env, k => k [] env
  | w :: ws, env, k => fz w env fun d env1 => fzs ws env1 fun ds env2 => k (d :: ds) env2
theorem Rl.fzs {f : Fm} {σ : L2.St} {H : Hp} : ∀ {ws : List W} {vs : List V} {Hb : Hp} {env : Env} {k : List D → Env → Prop}, Rl K c f Hb env σ H → RSs K Hb σ ws vs → fzs ws env k → ∃ ds env' Hb', Same Hb Hb' ∧ Rl K c f Hb' env' σ H ∧ RpL K Hb' ds vs ∧ k ds env'
  | [], _, Hb, env, k, R, h, q => by cases h; exact ⟨[], env, Hb, Same.refl _, R, .nil, q⟩
  | w :: ws, _, Hb, env, k, R, h, q => by
    cases h with
    | cons a r =>
      obtain ⟨d, env1, Hb1, s1, R1, p1, q1⟩ := R.fz (RS.rw a) q
      obtain ⟨ds, env2, Hb2, s2, R2, p2, q2⟩ := Rl.fzs R1 (RSs.mn r s1) q1
      exact ⟨d :: ds, env2, Hb2, s1.trans s2, R2, .cons (p1.mn s2) p2, q2⟩
theorem Rl.newL {f : Fm} {Hb H : Hp} {env : Env} {σ : L2.St} {p : Addr} {ds : List D} {vs : List V} (R : Rl K c f Hb env σ H) (np : H p = none) (r : RpL K Hb ds vs) : Rl K c f Hb env σ (upd H p (.lst vs)) ∧ RW K f Hb env σ (upd H p (.lst vs)) (.tmp (.lst ds)) (.ref p) :=
  ⟨R.ext (ExtH.newT R.sub np), R.ro (RO.lstN R.sub np r)⟩
@[simp] def vTup (t : VTA) : VT := fun env Q QX => t env (fun ws env1 => fzs ws env1 fun ds env2 => ds.length ≤ sizeLine ∧ Q (.val (.tup ds)) env2) QX
@[simp] def vLst (t : VTA) : VT := fun env Q QX => t env (fun ws env1 => fzs ws env1 fun ds env2 => ds.length ≤ sizeLine ∧ Q (.tmp (.lst ds)) env2) QX
theorem ve_tup {es : List Expr} {t : TA} {v : VTA} {x1 : Nat} {pos : Pos} (h : VA X c Wx es t v) : VE X c Wx (.Tuple es x1 pos) (tTupN t) (vTup v) := by
  refine ⟨pe_tupN h.pa, fun f Hb env σ H Q QX Q' R q px k => ?_⟩
  refine h.sim f Hb env σ H _ QX _ R q px fun ws env1 vs H1 Hb1 s1 R1 r1 q1 => ?_
  obtain ⟨ds, env2, Hb2, s2, R2, p2, hz, q2⟩ := R1.fzs r1 q1
  refine ⟨by rw [p2.length]; exact hz, fun p o np zz => ?_⟩
  have x : ExtH Hb2 H1 (upd Hb2 p (.frz o (.tup vs))) (upd H1 p (.frz o (.tup vs))) := ExtH.new R2.sub np
  exact k (.val (.tup ds)) _ _ _ _ ((s1.trans s2).trans x.b) (R2.ext x) (Rp.tupN R2.sub np zz p2) q2
theorem ve_lst {es : List Expr} {t : TA} {v : VTA} {pos : Pos} (h : VA X c Wx es t v) : VE X c Wx (.List es pos) (tLst t) (vLst v) := by
  refine ⟨pe_lst h.pa, fun f Hb env σ H Q QX Q' R q px k => ?_⟩
  refine h.sim f Hb env σ H _ QX _ R q px fun ws env1 vs H1 Hb1 s1 R1 r1 q1 => ?_
  obtain ⟨ds, env2, Hb2, s2, R2, p2, hz, q2⟩ := R1.fzs r1 q1
  refine ⟨by rw [p2.length]; exact hz, fun p np => ?_⟩
  have x : ExtH Hb2 H1 Hb2 (upd H1 p (.lst vs)) := ExtH.newT R2.sub np
  have R3 := R2.ext x
  exact k (.tmp (.lst ds)) _ _ _ _ (s1.trans s2) R3 (R2.ro (RO.lstN R2.sub np p2)) q2
theorem atI_rel {Hb : Hp} {ds : List D} {vs : List V} {i : Int} {d : D} (h : RpL K Hb ds vs) (e : atI ds i = some d) : ∃ v, atI vs i = some v ∧ Rp K Hb d v := by
  unfold atI at e ⊢
  rw [h.length]
  cases q : ixN ds.length i with
  | none => rw [q] at e; cases e
  | some j => rw [q] at e; exact h.get e
@[simp] def dIx : G2
  | .lst ds, .int i, Q => ∃ d, atI ds i = some d ∧ Q (.val d)
  | .tup ds, .int i, Q => ∃ d, atI ds i = some d ∧ Q (.val d)
  | .scr ds, .int i, Q => ∃ d, atI ds i = some d ∧ Q (.val d)
  | .str z, .int i, Q => z.length ≤ sizeLine ∧ ∃ n, atI z.cps.toList i = some n ∧ Q (.val (.str ⟨#[n]⟩))
  | _, _, _ => False
theorem ops_ix : OpS K (rIx K) dIx := by
  intro Hb H d1 d2 v1 v2 Q Q' s r1 r2 g k
  unfold dIx at g
  split at g
  · cases r2
    obtain ⟨d, e, g⟩ := g
    cases r1 with
    | lst s1 p1 =>
      obtain ⟨v, e', p⟩ := atI_rel p1 e
      exact .inl ⟨_, _, _, _, rfl, rfl, .of s1, e', k (.val d) _ _ _ (.refl s) p g⟩
  · cases r2
    obtain ⟨d, e, g⟩ := g
    cases r1 with
    | tup s1 p1 =>
      obtain ⟨v, e', p⟩ := atI_rel p1 e
      exact .inr (.inl ⟨_, _, _, _, rfl, rfl, same_seqT s s1.1, e', k (.val d) _ _ _ (.refl s) p g⟩)
  · cases r2
    obtain ⟨d, e, g⟩ := g
    cases r1 with
    | scr s1 p1 =>
      obtain ⟨v, e', p⟩ := atI_rel p1 e
      exact .inl ⟨_, _, _, _, rfl, rfl, s1, e', k (.val d) _ _ _ (.refl s) p g⟩
  · cases r1; cases r2
    obtain ⟨hz, n, e, g⟩ := g
    exact .inr (.inr ⟨_, _, _, rfl, rfl, hz, e, k (.val (.str _)) _ _ _ (.refl s) (.str _) g⟩)
  · exact g.elim
theorem ve_ix {a b : Expr} {ta tb : TE} {va vb : VT} {pos : Pos} (ha : VE X c Wx a ta va) (hb : VE X c Wx b tb vb) (hs : PlainIx b := by intro _ _; rfl) : VE X c Wx (.Subscript a b pos) (tOp (rIx X.K) ta tb) (vOp dIx va vb) :=
  ⟨pe_ix ix_seq ha.pe hb.pe hs, sim_op ops_ix ha.sim hb.sim⟩
abbrev VTO := Env → (Option Int → Env → Prop) → VX → Prop
def SimO (K : PySem.W.Frag) (c : VC) (Wx : WX) (te : TO) (t : VTO) : Prop := ∀ (f : Fm) (Hb : Hp) (env : Env) (σ : L2.St) (H : Hp) (Q : Option Int → Env → Prop) (QX : VX) (Q' : Option Int → Hp → Prop), Rl K c f Hb env σ H → t env Q QX → PX K c f Wx Hb σ QX →
  (∀ b env' H' Hb', Same Hb Hb' → Rl K c f Hb' env' σ H' → Q b env' → Q' b H') → te σ H Q'
structure VO (X : Cx) (c : VC) (Wx : WX) (e : Option Expr) (te : TO) (t : VTO) : Prop where
  po : PO X e te
  sim : SimO X.K c Wx te t
@[simp] def vNoPart : VTO := fun env Q _ => Q none env
@[simp] def vPart (t : VT) : VTO := fun env Q QX => t env (fun w env1 => match w with
  | .val (.int i) => Q (some i) env1
  | _ => False) QX
theorem vo_none : VO X c Wx none tNoPart vNoPart := ⟨po_none, fun f Hb env σ H Q QX Q' R q px k => k _ _ _ _ (Same.refl _) R q⟩
theorem vo_some {e : Expr} {te : TE} {t : VT} (h : VE X c Wx e te t) : VO X c Wx (some e) (tPart te) (vPart t) := by
  refine ⟨po_some h.pe, fun f Hb env σ H Q QX Q' R q px k => ?_⟩
  refine h.sim f Hb env σ H _ QX _ R q px fun w1 env1 v1 H1 Hb1 s1 R1 r1 q1 => ?_
  split at q1
  · cases r1
    exact ⟨_, rfl, k _ _ _ _ s1 R1 q1⟩
  · exact q1.elim
def cutD (xs : List D) (lo hi : Option Int) : List D := (xs.drop (HT.sIx xs.length 0 lo)).take (HT.sIx xs.length xs.length hi - HT.sIx xs.length 0 lo)
theorem cut_rel {Hb : Hp} {ds : List D} {vs : List V} {lo hi : Option Int} (h : RpL K Hb ds vs) : RpL K Hb (cutD ds lo hi) (cutV vs lo hi) := by
  unfold cutD cutV
  rw [h.length]
  exact (h.drop _).take _
theorem cutV_whole {vs : List V} {lo hi : Option Int} (h : HT.sIx vs.length 0 lo = 0 ∧ HT.sIx vs.length vs.length hi = vs.length) : cutV vs lo hi = vs := by
  unfold cutV
  rw [h.1, h.2]
  simp
@[simp] def dSl (d : D) (lo hi : Option Int) (Q : W → Prop) : Prop := match d with
  | .lst ds => Q (.tmp (.lst (cutD ds lo hi)))
  | .tup ds => Q (.val (.tup (cutD ds lo hi)))
  | .str z => z.length ≤ sizeLine ∧ Q (.val (.str (cutS z lo hi)))
  | _ => False
@[simp] def vSl (te : VT) (tl th : VTO) : VT := fun env Q QX => te env (fun w env1 => tl env1 (fun lo env2 => th env2 (fun hi env3 => rd (fzv w) env3 fun d => dSl d lo hi fun w' => Q w' env3) QX) QX) QX
abbrev rSlAll (K : PySem.W.Frag) : V → Option Int → Option Int → Hp → VK → Prop := fun x lo hi H Q => rSlL K x lo hi H Q ∨ (rSlN K x lo hi H Q ∨ rSlS x lo hi H Q)
theorem SlR.or {r r' : V → Option Int → Option Int → Hp → VK → Prop} (h : SlR X r) (h' : SlR X r') : SlR X (fun x lo hi H Q => r x lo hi H Q ∨ r' x lo hi H Q) := by
  intro pins s σ H x v vl vu lo hi sl Q I rx hs pl pu q
  rcases q with q | q
  · exact h pins s σ H x v vl vu lo hi sl Q I rx hs pl pu q
  · exact h' pins s σ H x v vl vu lo hi sl Q I rx hs pl pu q
theorem ve_sl {e : Expr} {lo hi : Option Expr} {te : TE} {tl th : TO} {ve : VT} {vl vh : VTO} {pos p2 : Pos} (he : VE X c Wx e te ve) (hl : VO X c Wx lo tl vl) (hh : VO X c Wx hi th vh) : VE X c Wx (.Subscript e (.Slice lo hi none p2) pos) (tSl (rSlAll X.K) te tl th) (vSl ve vl vh) := by
  refine ⟨pe_slice (SlR.or sl_list (SlR.or sl_tupN sl_str)) he.pe hl.po hh.po, fun f Hb env σ H Q QX Q' R q px k => ?_⟩
  refine he.sim f Hb env σ H _ QX _ R q px fun w1 env1 v1 H1 Hb1 s1 R1 r1 q1 => ?_
  obtain ⟨Hb1', s1', R1', r1'⟩ := R1.fzv r1
  refine hl.sim f Hb1' env1 σ H1 _ QX _ R1' q1 (px.mn (s1.trans s1')) fun lo env2 H2 Hb2 s2 R2 q2 => ?_
  refine hh.sim f Hb2 env2 σ H2 _ QX _ R2 q2 (px.mn ((s1.trans s1').trans s2)) fun hi env3 H3 Hb3 s3 R3 q3 => ?_
  obtain ⟨d, e1, q3⟩ := rd_of q3
  have rr := R3.rd (RS.rw ((r1'.mn s2).mn s3)) e1
  have ss := ((s1.trans s1').trans s2).trans s3
  unfold dSl at q3
  split at q3
  · cases rr with
    | lst s4 p4 =>
      refine .inl ⟨_, _, rfl, .of s4, fun p np => ?_⟩
      obtain ⟨R4, ro⟩ := R3.newL np (cut_rel (lo := lo) (hi := hi) p4)
      exact k (.tmp (.lst _)) _ _ _ _ ss R4 ro q3
  · cases rr with
    | tup s4 p4 =>
      refine .inr (.inl ⟨_, _, rfl, same_seqT R3.sub s4.1, fun hw => ?_, fun hw p o np zz => ?_⟩)
      · have z := cut_rel (lo := lo) (hi := hi) p4
        rw [cutV_whole hw] at z
        exact k (.val (.tup _)) _ _ _ _ ss R3 (.tup s4 z) q3
      · have ro := Rp.tupN R3.sub np zz (cut_rel (lo := lo) (hi := hi) p4)
        exact k (.val (.tup _)) _ _ _ _ (ss.trans (ExtH.new R3.sub np).b) (R3.ext (ExtH.new R3.sub np)) ro q3
  · cases rr
    exact .inr (.inr ⟨_, rfl, q3.1, k (.val (.str _)) _ _ _ _ ss R3 (.str _) q3.2⟩)
  · exact q3.elim
@[simp] def rds : List W → Env → (List D → Prop) → Prop
  | [], _, k => k []
  | w :: ws, env, k => rd w env fun d => rds ws env fun ds => k (d :: ds)
theorem Rl.rds {f : Fm} {σ : L2.St} {H Hb : Hp} {env : Env} (R : Rl K c f Hb env σ H) : ∀ {ws : List W} {vs : List V} {k : List D → Prop}, RSs K Hb σ ws vs → rds ws env k → ∃ ds, Paired (RR K Hb H) ds vs ∧ k ds
  | [], _, k, h, q => by cases h; exact ⟨[], .nil, q⟩
  | w :: ws, _, k, h, q => by
    cases h with
    | cons a r =>
      obtain ⟨d, e, q⟩ := rd_of q
      obtain ⟨ds, p, q⟩ := Rl.rds R r q
      exact ⟨d :: ds, .cons (R.rd (RS.rw a) e) p, q⟩
abbrev GN := List D → (W → Prop) → Prop
def CallS (K : PySem.W.Frag) (r : List V → Hp → VK → Prop) (g : GN) : Prop := ∀ (Hb H : Hp) (ds : List D) (vs : List V) (Q : W → Prop) (Q' : VK), Same Hb H → Paired (RR K Hb H) ds vs → g ds Q →
  (∀ w v H' Hb', ExtH Hb H Hb' H' → RO K Hb' H H' w v → Q w → Q' v H') → r vs H Q'
@[simp] def vCB (g : GN) (t : VTA) : VT := fun env Q QX => t env (fun ws env1 => rds ws env1 fun ds => g ds fun w => Q w env1) QX
theorem sim_cb {r : List V → Hp → VK → Prop} {g : GN} {t : TA} {v : VTA} (hs : CallS K r g) (h : SimA K c Wx t v) : SimE K c Wx (tCB r t) (vCB g v) := by
  intro f Hb env σ H Q QX Q' R q px k
  refine h f Hb env σ H _ QX _ R q px fun ws env1 vs H1 Hb1 s1 R1 r1 q1 => ?_
  obtain ⟨ds, p, q1⟩ := R1.rds r1 q1
  exact hs Hb1 H1 ds vs _ Q' R1.sub p q1 fun w v H' Hb' x ro qw => k w env1 v H' Hb' (s1.trans x.b) (R1.ext x) (R1.ro ro) qw
theorem ve_callB {id : String} {x : Str} {r : List V → Hp → VK → Prop} {g : GN} {e : Expr} {es : List Expr} {t : TA} {v : VTA} {p pos : Pos} (hc : CallR X (.builtin id) r) (hs : CallS X.K r g) (hm : X.mg x = none) (hv : bootBuiltins x = some (.builtin id)) (ha : VA X c Wx (e :: es) t v) (hg : Gl X x := by rfl) (hn : x ≠ "__name__" := by decide) (hdb : (x == ("__debug__" : Str)) = false := by decide)
    (he : starEach (e :: es) X.env = (false, eval e X.env) :: starEach es X.env := by rfl) (hpl : (backTo pos (starEach es X.env)).any (·.1) = false := by rfl) : VE X c Wx (.Call (.Name x p) (e :: es) [] pos) (tCB r t) (vCB g v) :=
  ⟨pe_callB hc hg hm hv ha.pa hn hdb he hpl, sim_cb hs ha.sim⟩
theorem ve_callTy {T : String} {x : Str} {r : List V → Hp → VK → Prop} {g : GN} {e : Expr} {es : List Expr} {t : TA} {v : VTA} {p pos : Pos} (hc : CallR X (.type T) r) (hs : CallS X.K r g) (hm : X.mg x = none) (hv : bootBuiltins x = some (.type T)) (ha : VA X c Wx (e :: es) t v) (hg : Gl X x := by rfl) (hn : x ≠ "__name__" := by decide) (hdb : (x == ("__debug__" : Str)) = false := by decide)
    (he : starEach (e :: es) X.env = (false, eval e X.env) :: starEach es X.env := by rfl) (hpl : (backTo pos (starEach es X.env)).any (·.1) = false := by rfl) : VE X c Wx (.Call (.Name x p) (e :: es) [] pos) (tCB r t) (vCB g v) :=
  ⟨pe_callTy hc hg hm hv ha.pa hn hdb he hpl, sim_cb hs ha.sim⟩
@[simp] def dLen : GN
  | [.lst ds], Q => Q (.val (.int ds.length))
  | [.tup ds], Q => Q (.val (.int ds.length))
  | [.scr ds], Q => Q (.val (.int ds.length))
  | [.str z], Q => z.length ≤ sizeLine ∧ Q (.val (.int z.length))
  | _, _ => False
theorem paired1 {α β : Type} {F : α → β → Prop} {a : α} {bs : List β} (h : Paired F [a] bs) : ∃ b, bs = [b] ∧ F a b := by
  cases h with
  | cons p r => cases r; exact ⟨_, rfl, p⟩
theorem paired2 {α β : Type} {F : α → β → Prop} {a a' : α} {bs : List β} (h : Paired F [a, a'] bs) : ∃ b b', bs = [b, b'] ∧ F a b ∧ F a' b' := by
  cases h with
  | cons p r => obtain ⟨b, rfl, q⟩ := paired1 r; exact ⟨_, _, rfl, p, q⟩
theorem calls_len : CallS K (fun xs H Q => ∃ x n, xs = [x] ∧ LenV K x H n ∧ Q (.int n) H) dLen := by
  intro Hb H ds vs Q Q' s p g k
  unfold dLen at g
  split at g
  · obtain ⟨v, rfl, r⟩ := paired1 p
    cases r with
    | lst s1 p1 => exact ⟨_, _, rfl, .inl ⟨_, .of s1, p1.length.symm⟩, k (.val (.int _)) _ _ _ (.refl s) (.int _) g⟩
  · obtain ⟨v, rfl, r⟩ := paired1 p
    cases r with
    | tup s1 p1 => exact ⟨_, _, rfl, .inr ⟨_, same_seqT s s1.1, p1.length.symm⟩, k (.val (.int _)) _ _ _ (.refl s) (.int _) g⟩
  · obtain ⟨v, rfl, r⟩ := paired1 p
    cases r with
    | scr s1 p1 => exact ⟨_, _, rfl, .inl ⟨_, s1, p1.length.symm⟩, k (.val (.int _)) _ _ _ (.refl s) (.int _) g⟩
  · obtain ⟨v, rfl, r⟩ := paired1 p
    cases r
    exact ⟨_, _, rfl, ⟨g.1, rfl⟩, k (.val (.int _)) _ _ _ (.refl s) (.int _) g.2⟩
  · exact g.elim
@[simp] def dInt : GN
  | [.int i], Q => Q (.val (.int i))
  | [.bl b], Q => Q (.val (.int (if b then 1 else 0)))
  | [.str z], Q => ∃ n, PySem.intText? z = some n ∧ z.length ≤ 640 ∧ Q (.val (.int n))
  | _, _ => False
abbrev rIntA : List V → Hp → VK → Prop := fun xs H Q => ((∃ i, xs = [.int i] ∧ Q (.int i) H) ∨ ∃ k, xs = [.bl k] ∧ Q (.int (if k then 1 else 0)) H) ∨ ∃ a n, xs = [.str a] ∧ PySem.intText? a = some n ∧ a.length ≤ 640 ∧ Q (.int n) H
theorem CallR.or {f : Value} {r r' : List V → Hp → VK → Prop} (h : CallR X f r) (h' : CallR X f r') : CallR X f (fun xs H Q => r xs H Q ∨ r' xs H Q) := by
  intro pins s σ H xs us Q I rx q
  rcases q with q | q
  · exact h pins s σ H xs us Q I rx q
  · exact h' pins s σ H xs us Q I rx q
theorem calls_int : CallS K rIntA dInt := by
  intro Hb H ds vs Q Q' s p g k
  unfold dInt at g
  split at g
  · obtain ⟨v, rfl, r⟩ := paired1 p
    cases r
    exact .inl (.inl ⟨_, rfl, k (.val (.int _)) _ _ _ (.refl s) (.int _) g⟩)
  · obtain ⟨v, rfl, r⟩ := paired1 p
    cases r
    exact .inl (.inr ⟨_, rfl, k (.val (.int _)) _ _ _ (.refl s) (.int _) g⟩)
  · obtain ⟨v, rfl, r⟩ := paired1 p
    cases r
    obtain ⟨n, e, hz, g⟩ := g
    exact .inr ⟨_, _, rfl, e, hz, k (.val (.int _)) _ _ _ (.refl s) (.int _) g⟩
  · exact g.elim
@[simp] def dAbs : GN
  | [.int i], Q => Q (.val (.int (if i < 0 then -i else i)))
  | _, _ => False
@[simp] def dMax2 : GN
  | [.int i, .int j], Q => Q (.val (.int (if j > i then j else i)))
  | _, _ => False
@[simp] def dMin2 : GN
  | [.int i, .int j], Q => Q (.val (.int (if j < i then j else i)))
  | _, _ => False
theorem calls_min2 : CallS K (fun xs H Q => ∃ i j, xs = [.int i, .int j] ∧ Q (.int (if j < i then j else i)) H) dMin2 := by
  intro Hb H ds vs Q Q' s p g k
  unfold dMin2 at g
  split at g
  · obtain ⟨v, v', rfl, r, r'⟩ := paired2 p
    cases r; cases r'
    exact ⟨_, _, rfl, k (.val (.int _)) _ _ _ (.refl s) (.int _) g⟩
  · exact g.elim
@[simp] def dTuple : GN
  | [.lst ds], Q => Q (.val (.tup ds))
  | [.tup ds], Q => Q (.val (.tup ds))
  | _, _ => False
theorem calls_tuple : CallS K (fun xs H Q => ∃ p ys, xs = [.ref p] ∧ ((SqL K H p ys ∧ NewT H ys Q) ∨ (SqT K H p ys ∧ Q (.ref p) H))) dTuple := by
  intro Hb H ds vs Q Q' s p g k
  unfold dTuple at g
  split at g
  · obtain ⟨v, rfl, r⟩ := paired1 p
    cases r with
    | lst s1 p1 => exact ⟨_, _, rfl, .inl ⟨.of s1, fun l o nl zz => k (.val (.tup _)) _ _ _ (ExtH.new s nl) (Rp.tupN s nl zz p1) g⟩⟩
  · obtain ⟨v, rfl, r⟩ := paired1 p
    cases r with
    | tup s1 p1 => exact ⟨_, _, rfl, .inr ⟨same_seqT s s1.1, k (.val (.tup _)) _ _ _ (.refl s) (.tup s1 p1) g⟩⟩
  · exact g.elim
@[simp] def dList : GN
  | [.lst ds], Q => Q (.tmp (.lst ds))
  | [.tup ds], Q => Q (.tmp (.lst ds))
  | _, _ => False
theorem calls_list : CallS K (fun xs H Q => ∃ p ys, xs = [.ref p] ∧ (SqL K H p ys ∨ SqT K H p ys) ∧ ∀ l, H l = none → Q (.ref l) (upd H l (.lst ys))) dList := by
  intro Hb H ds vs Q Q' s p g k
  unfold dList at g
  split at g
  · obtain ⟨v, rfl, r⟩ := paired1 p
    cases r with
    | lst s1 p1 => exact ⟨_, _, rfl, .inl (.of s1), fun l nl => k (.tmp (.lst _)) _ _ _ (ExtH.newT s nl) (RO.lstN s nl p1) g⟩
  · obtain ⟨v, rfl, r⟩ := paired1 p
    cases r with
    | tup s1 p1 => exact ⟨_, _, rfl, .inr (same_seqT s s1.1), fun l nl => k (.tmp (.lst _)) _ _ _ (ExtH.newT s nl) (RO.lstN s nl p1) g⟩
  · exact g.elim
@[simp] def dStr : GN
  | [.int i], Q => i.natAbs.log2 < 1920 ∧ Q (.val (.str (toString i)))
  | _, _ => False
end
end VL
set_option Elab.async false
set_option linter.all false
set_option maxRecDepth 100000
set_option maxHeartbeats 4000000
namespace VL
open PySem PySem.Spec PyProof.Rows L2
variable [CM]
abbrev VSp := List M → (W → List M → Prop) → (Str → List (Str × D) → List M → Prop) → Prop
def MR (K : PySem.W.Frag) (Hb H : Hp) : M → V → Prop
  | .val d, v => Rp K Hb d v
  | .own oc, v => ∃ a, v = .ref a ∧ Hb a = none ∧ Cont K Hb H a oc
def owns : List M → List V → List Addr
  | .own _ :: ms, .ref a :: vs => a :: owns ms vs
  | _ :: ms, _ :: vs => owns ms vs
  | _, _ => []
theorem mem_owns {K : PySem.W.Frag} {Hb H : Hp} : ∀ {ms : List M} {vs : List V} {a : Addr}, Paired (MR K Hb H) ms vs → a ∈ owns ms vs → ∃ (k : Nat) (oc : OC), ms[k]? = some (.own oc) ∧ vs[k]? = some (.ref a)
  | [], _, a, h, e => by cases h; exact absurd e (by simp [owns])
  | .val d :: ms, _, a, h, e => by
    cases h with
    | cons x r =>
      rename_i v vs
      have e : a ∈ owns ms vs := by simpa [owns] using e
      obtain ⟨k, oc, h1, h2⟩ := mem_owns r e
      exact ⟨k + 1, oc, by simpa using h1, by simpa using h2⟩
  | .own oc :: ms, _, a, h, e => by
    cases h with
    | cons x r =>
      obtain ⟨b, rfl, _⟩ := x
      rcases List.mem_cons.mp e with rfl | e
      · exact ⟨0, oc, rfl, rfl⟩
      · obtain ⟨k, oc, h1, h2⟩ := mem_owns r e
        exact ⟨k + 1, oc, by simpa using h1, by simpa using h2⟩
theorem owns_mem {K : PySem.W.Frag} {Hb H : Hp} : ∀ {ms : List M} {vs : List V} {a : Addr} {k : Nat} {oc : OC}, Paired (MR K Hb H) ms vs → ms[k]? = some (.own oc) → vs[k]? = some (.ref a) → a ∈ owns ms vs
  | [], _, a, k, oc, h, e, _ => by simp at e
  | .val d :: ms, _, a, 0, oc, h, e, _ => by simp at e
  | .val d :: ms, _, a, k + 1, oc, h, e, e2 => by
    cases h with
    | cons x r =>
      rename_i v vs
      show a ∈ owns ms vs
      exact owns_mem (k := k) r (by simpa using e) (by simpa using e2)
  | .own oc0 :: ms, _, a, 0, oc, h, e, e2 => by
    cases h with
    | cons x r =>
      obtain ⟨b, rfl, _⟩ := x
      have : V.ref b = V.ref a := by simpa using e2
      cases this
      exact List.mem_cons_self
  | .own oc0 :: ms, _, a, k + 1, oc, h, e, e2 => by
    cases h with
    | cons x r =>
      obtain ⟨b, rfl, _⟩ := x
      exact List.mem_cons_of_mem _ (owns_mem (k := k) r (by simpa using e) (by simpa using e2))
def sameShape : List M → List M → Prop
  | [], [] => True
  | .val d :: ms, .val e :: os => d = e ∧ sameShape ms os
  | .own _ :: ms, .own _ :: os => sameShape ms os
  | _, _ => False
theorem shape_own : ∀ {ms os : List M} {k : Nat} {oc : OC}, sameShape ms os → ms[k]? = some (.own oc) → ∃ oc', os[k]? = some (.own oc')
  | [], _, k, oc, _, e => by simp at e
  | .val d :: ms, [], _, _, h, _ => h.elim
  | .own o :: ms, [], _, _, h, _ => h.elim
  | .val d :: ms, .val e :: os, 0, _, _, q => by simp at q
  | .val d :: ms, .own e :: os, _, _, h, _ => h.elim
  | .own d :: ms, .val e :: os, _, _, h, _ => h.elim
  | .val d :: ms, .val e :: os, k + 1, oc, h, q => by
    obtain ⟨oc', z⟩ := shape_own (k := k) h.2 (by simpa using q)
    exact ⟨oc', by simpa using z⟩
  | .own d :: ms, .own e :: os, 0, oc, h, q => ⟨e, rfl⟩
  | .own d :: ms, .own e :: os, k + 1, oc, h, q => by
    have h : sameShape ms os := h
    obtain ⟨oc', z⟩ := shape_own (k := k) h (by simpa using q)
    exact ⟨oc', by simpa using z⟩
theorem shape_own' : ∀ {ms os : List M} {k : Nat} {oc : OC}, sameShape ms os → os[k]? = some (.own oc) → ∃ oc', ms[k]? = some (.own oc')
  | [], [], k, oc, _, e => by simp at e
  | [], _ :: _, k, oc, h, e => h.elim
  | .val d :: ms, [], _, _, h, _ => h.elim
  | .own o :: ms, [], _, _, h, _ => h.elim
  | .val d :: ms, .val e :: os, 0, _, _, q => by simp at q
  | .val d :: ms, .own e :: os, _, _, h, _ => h.elim
  | .own d :: ms, .val e :: os, _, _, h, _ => h.elim
  | .val d :: ms, .val e :: os, k + 1, oc, h, q => by
    obtain ⟨oc', z⟩ := shape_own' (k := k) h.2 (by simpa using q)
    exact ⟨oc', by simpa using z⟩
  | .own d :: ms, .own e :: os, 0, oc, h, q => ⟨d, rfl⟩
  | .own d :: ms, .own e :: os, k + 1, oc, h, q => by
    have h : sameShape ms os := h
    obtain ⟨oc', z⟩ := shape_own' (k := k) h (by simpa using q)
    exact ⟨oc', by simpa using z⟩
structure Pre (K : PySem.W.Frag) (T : List Addr) (Hb : Hp) (ms : List M) (vs : List V) (H : Hp) : Prop where
  sub : Same Hb H
  args : Paired (MR K Hb H) ms vs
  nd : (owns ms vs).Nodup
  tab : ∀ P ∈ T, GxR.TabG H P ∧ Hb P = none
structure Post (K : PySem.W.Frag) (T : List Addr) (Hb : Hp) (ms : List M) (vs : List V) (H : Hp) (outs : List M) (Hb' H' : Hp) : Prop where
  b : Same Hb Hb'
  s : Same Hb' H'
  keep : ∀ a o, H a = some o → a ∉ owns ms vs → a ∉ T → H' a = some o
  n : ∀ a o, H a = some o → Hb' a = Hb a
  args : Paired (MR K Hb' H') outs vs
  shape : sameShape ms outs
  tab : ∀ P ∈ T, GxR.TabG H' P ∧ Hb' P = none
def spOf (K : PySem.W.Frag) (T : List Addr) (sp : VSp) : Sp := fun vs H Q E => ∃ (Hb : Hp) (ms : List M) (A : W → List M → Prop) (B : Str → List (Str × D) → List M → Prop), Pre K T Hb ms vs H ∧ sp ms A B ∧
  (∀ w outs, A w outs → ∀ v H' Hb', Post K T Hb ms vs H outs Hb' H' → RO K Hb' H H' w v → Q v H') ∧
  (∀ C fs outs, B C fs outs → ∀ d H' Hb', Post K T Hb ms vs H outs Hb' H' → XR K C Hb' H' d fs → E (.ref (CM.at_ C)) d H')
def argM (w : W) (env : Env) (k : M → Prop) : Prop := match w with
  | .val d => k (.val d)
  | .cel i => match env[i]? with
    | some (some m) => k m
    | _ => False
  | .tmp _ => False
@[simp] def argMs : List W → Env → (List M → Prop) → Prop
  | [], _, k => k []
  | w :: ws, env, k => argM w env fun m => argMs ws env fun ms => k (m :: ms)
@[simp] def cels : List W → Env → List Nat
  | [], _ => []
  | .cel i :: ws, env => match env[i]? with
    | some (some (.own _)) => i :: cels ws env
    | _ => cels ws env
  | _ :: ws, env => cels ws env
@[simp] def fnd (j : Nat) : List W → List M → Option OC
  | .cel i :: ws, .own oc :: os => if i = j then some oc else fnd j ws os
  | _ :: ws, _ :: os => fnd j ws os
  | _, _ => none
@[simp] def wbA (ws : List W) (os : List M) : Nat → Env → Env
  | _, [] => []
  | j, m :: r => (match fnd j ws os with
    | some oc => some (.own oc)
    | none => m) :: wbA ws os (j + 1) r
def wb (env : Env) (ws : List W) (os : List M) : Env := wbA ws os 0 env
@[simp] theorem argM_val {d : D} {env : Env} {k : M → Prop} : argM (.val d) env k = k (.val d) := rfl
def argC (o : Option (Option M)) (k : M → Prop) : Prop := match o with
  | some (some m) => k m
  | _ => False
@[simp] theorem argC_m {m : M} {k : M → Prop} : argC (some (some m)) k = k m := rfl
@[simp] theorem argC_n {k : M → Prop} : argC (some none) k = False := rfl
@[simp] theorem argC_0 {k : M → Prop} : argC none k = False := rfl
@[simp] theorem argM_cel {i : Nat} {env : Env} {k : M → Prop} : argM (.cel i) env k = argC env[i]? k := rfl
@[simp] theorem argM_tmp {oc : OC} {env : Env} {k : M → Prop} : argM (.tmp oc) env k = False := rfl
@[simp] theorem wb_nil {env : Env} {ws : List W} : wb env ws [] = wbA ws [] 0 env := rfl
@[simp] theorem wb_cons {env : Env} {ws : List W} {o : M} {os : List M} : wb env ws (o :: os) = wbA ws (o :: os) 0 env := rfl
theorem wbA_len (ws : List W) (os : List M) : ∀ (j : Nat) (env : Env), (wbA ws os j env).length = env.length
  | _, [] => rfl
  | j, m :: r => by simp [wbA, wbA_len]
theorem wbA_get (ws : List W) (os : List M) : ∀ (j : Nat) (env : Env) (i : Nat), (wbA ws os j env)[i]? = env[i]?.map fun m => match fnd (j + i) ws os with
    | some oc => some (.own oc)
    | none => m
  | _, [], i => by simp [wbA]
  | j, m :: r, 0 => by simp [wbA]
  | j, m :: r, i + 1 => by
    simp only [wbA, List.getElem?_cons_succ]
    rw [wbA_get ws os (j + 1) r i]
    rw [show j + 1 + i = j + (i + 1) by omega]
theorem wb_get (env : Env) (ws : List W) (os : List M) (i : Nat) : (wb env ws os)[i]? = env[i]?.map fun m => match fnd i ws os with
    | some oc => some (.own oc)
    | none => m := by
  unfold wb
  rw [wbA_get, Nat.zero_add]
theorem fnd_some : ∀ {ws : List W} {os : List M} {j : Nat} {oc : OC}, fnd j ws os = some oc → ∃ k : Nat, ws[k]? = some (W.cel j) ∧ os[k]? = some (M.own oc)
  | [], _, _, _, h => by simp [fnd] at h
  | .val d :: ws, [], _, _, h => by simp [fnd] at h
  | .tmp d :: ws, [], _, _, h => by simp [fnd] at h
  | .cel d :: ws, [], _, _, h => by simp [fnd] at h
  | .val d :: ws, o :: os, j, oc, h => by
    have h : fnd j ws os = some oc := by simpa [fnd] using h
    obtain ⟨k, h1, h2⟩ := fnd_some h
    exact ⟨k + 1, by simpa using h1, by simpa using h2⟩
  | .tmp d :: ws, o :: os, j, oc, h => by
    have h : fnd j ws os = some oc := by simpa [fnd] using h
    obtain ⟨k, h1, h2⟩ := fnd_some h
    exact ⟨k + 1, by simpa using h1, by simpa using h2⟩
  | .cel i :: ws, .val d :: os, j, oc, h => by
    have h : fnd j ws os = some oc := by simpa [fnd] using h
    obtain ⟨k, h1, h2⟩ := fnd_some h
    exact ⟨k + 1, by simpa using h1, by simpa using h2⟩
  | .cel i :: ws, .own o :: os, j, oc, h => by
    unfold fnd at h
    split at h
    · rename_i e
      subst e
      cases h
      exact ⟨0, rfl, rfl⟩
    · obtain ⟨k, h1, h2⟩ := fnd_some h
      exact ⟨k + 1, by simpa using h1, by simpa using h2⟩
theorem fnd_none : ∀ {ws : List W} {os : List M} {j k : Nat} {oc : OC}, fnd j ws os = none → ws[k]? = some (.cel j) → os[k]? = some (.own oc) → False
  | [], _, _, _, _, _, h, _ => by simp at h
  | _ :: _, [], _, _, _, _, _, h => by simp at h
  | .cel i :: ws, .own o :: os, j, 0, oc, h, e, e2 => by
    have : i = j := by simpa using e
    simp [fnd, this] at h
  | .cel i :: ws, .own o :: os, j, k + 1, oc, h, e, e2 => by
    unfold fnd at h
    split at h
    · cases h
    · exact fnd_none (k := k) h (by simpa using e) (by simpa using e2)
  | .val d :: ws, o :: os, j, 0, oc, h, e, e2 => by simp at e
  | .tmp d :: ws, o :: os, j, 0, oc, h, e, e2 => by simp at e
  | .cel d :: ws, .val o :: os, j, 0, oc, h, e, e2 => by simp at e2
  | .val d :: ws, o :: os, j, k + 1, oc, h, e, e2 => fnd_none (k := k) (by simpa [fnd] using h) (by simpa using e) (by simpa using e2)
  | .tmp d :: ws, o :: os, j, k + 1, oc, h, e, e2 => fnd_none (k := k) (by simpa [fnd] using h) (by simpa using e) (by simpa using e2)
  | .cel d :: ws, .val o :: os, j, k + 1, oc, h, e, e2 => fnd_none (k := k) (by simpa [fnd] using h) (by simpa using e) (by simpa using e2)
section
variable {K : PySem.W.Frag} {c : VC} {Wx : WX} {X : Cx}
structure ArgsOk (K : PySem.W.Frag) (f : Fm) (Hb H : Hp) (env : Env) (σ : L2.St) (ws : List W) (ms : List M) (vs : List V) : Prop where
  rel : Paired (MR K Hb H) ms vs
  own : ∀ (k : Nat) (oc : OC), ms[k]? = some (.own oc) → ∃ i, ws[k]? = some (.cel i) ∧ env[i]? = some (some (.own oc)) ∧ σ[i]? = vs[k]?.map some
  cel : ∀ (k i : Nat) (oc : OC), ws[k]? = some (.cel i) → env[i]? = some (some (.own oc)) → ms[k]? = some (.own oc)
  sub : ∀ a ∈ owns ms vs, ∃ i ∈ cels ws env, σ[i]? = some (some (.ref a))
  nd : (cels ws env).Nodup → (owns ms vs).Nodup
theorem mem_cels : ∀ {ws : List W} {env : Env} {i : Nat}, i ∈ cels ws env → ∃ oc, env[i]? = some (some (.own oc))
  | [], _, _, h => by simp [cels] at h
  | .val d :: ws, env, i, h => mem_cels (ws := ws) (by simpa [cels] using h)
  | .tmp d :: ws, env, i, h => mem_cels (ws := ws) (by simpa [cels] using h)
  | .cel j :: ws, env, i, h => by
    unfold cels at h
    split at h
    · rename_i oc e
      rcases List.mem_cons.mp h with rfl | h
      · exact ⟨oc, e⟩
      · exact mem_cels h
    · exact mem_cels h
theorem Rl.argMs {f : Fm} {Hb H : Hp} {env : Env} {σ : L2.St} (R : Rl K c f Hb env σ H) : ∀ {ws : List W} {vs : List V} {k : List M → Prop}, RSs K Hb σ ws vs → argMs ws env k → ∃ ms, ArgsOk K f Hb H env σ ws ms vs ∧ k ms
  | [], _, k, h, q => by
    cases h
    exact ⟨[], ⟨.nil, fun k oc e => by simp at e, fun k i oc e => by simp at e, fun a e => by simp [owns] at e, fun _ => List.nodup_nil⟩, q⟩
  | w :: ws, _, k, h, q => by
    cases h with
    | cons x r =>
      rename_i v vs
      unfold VL.argMs argM at q
      cases w with
      | val d =>
        obtain ⟨ms, a, q⟩ := Rl.argMs R r q
        refine ⟨.val d :: ms, ⟨.cons x a.rel, fun k oc e => ?_, fun k i oc e e2 => ?_, fun b e => a.sub b (by simpa [owns] using e), fun n => a.nd (by simpa [cels] using n)⟩, q⟩
        · cases k with
          | zero => simp at e
          | succ k =>
            obtain ⟨i, h1, h2, h3⟩ := a.own k oc (by simpa using e)
            exact ⟨i, by simpa using h1, h2, by simpa using h3⟩
        · cases k with
          | zero => simp at e
          | succ k => simpa using a.cel k i oc (by simpa using e) e2
      | tmp d => exact x.elim
      | cel i =>
        have x : σ[i]? = some (some v) := x
        dsimp only at q
        split at q
        · rename_i m hm
          obtain ⟨ms, a, q⟩ := Rl.argMs R r q
          cases m with
          | val d =>
            obtain ⟨v', h1, h2⟩ := R.val hm
            rw [x] at h1; cases h1
            refine ⟨.val d :: ms, ⟨.cons h2 a.rel, fun k oc e => ?_, fun k j oc e e2 => ?_, fun b e => ?_, fun n => a.nd (by simpa [cels, hm] using n)⟩, q⟩
            · cases k with
              | zero => simp at e
              | succ k =>
                obtain ⟨i, h1, h2, h3⟩ := a.own k oc (by simpa using e)
                exact ⟨i, by simpa using h1, h2, by simpa using h3⟩
            · cases k with
              | zero =>
                have : i = j := by simpa using e
                subst this
                rw [hm] at e2; cases e2
              | succ k => simpa using a.cel k j oc (by simpa using e) e2
            · obtain ⟨j, h1, h2⟩ := a.sub b (by simpa [owns] using e)
              exact ⟨j, by simp only [cels, hm]; exact h1, h2⟩
          | own oc =>
            obtain ⟨b, h1, h2, h3, h4⟩ := R.own hm
            rw [x] at h1; cases h1
            refine ⟨.own oc :: ms, ⟨.cons ⟨b, rfl, h2, h4⟩ a.rel, fun k oc' e => ?_, fun k j oc' e e2 => ?_, fun b' e => ?_, fun n => ?_⟩, q⟩
            · cases k with
              | zero =>
                have : oc = oc' := by simpa using e
                subst this
                exact ⟨i, rfl, hm, by simpa using x⟩
              | succ k =>
                obtain ⟨i, h1, h2, h3⟩ := a.own k oc' (by simpa using e)
                exact ⟨i, by simpa using h1, h2, by simpa using h3⟩
            · cases k with
              | zero =>
                have : i = j := by simpa using e
                subst this
                rw [hm] at e2; cases e2; rfl
              | succ k => simpa using a.cel k j oc' (by simpa using e) e2
            · have e : b' ∈ b :: owns ms vs := e
              rcases List.mem_cons.mp e with rfl | e
              · exact ⟨i, by simp only [cels, hm]; exact List.mem_cons_self, x⟩
              · obtain ⟨j, h1, h2⟩ := a.sub b' e
                exact ⟨j, by simp only [cels, hm]; exact List.mem_cons_of_mem _ h1, h2⟩
            · have n : (i :: cels ws env).Nodup := by simpa [cels, hm] using n
              obtain ⟨n1, n2⟩ := List.nodup_cons.mp n
              show (b :: owns ms vs).Nodup
              refine List.nodup_cons.mpr ⟨fun z => ?_, a.nd n2⟩
              obtain ⟨j, z1, z2⟩ := a.sub b z
              obtain ⟨oc', e'⟩ := mem_cels z1
              have := R.inj hm e' x z2
              subst this
              exact n1 z1
        · exact q.elim
theorem Rl.post {f : Fm} {Hb H Hb' H' : Hp} {env : Env} {σ : L2.St} {ws : List W} {ms outs : List M} {vs : List V} (R : Rl K c f Hb env σ H) (a : ArgsOk K f Hb H env σ ws ms vs) (p : Post K c.T Hb ms vs H outs Hb' H') : Rl K c f Hb' (wb env ws outs) σ H' := by
  have notO : ∀ {b : Addr}, f.Fr b ≠ none → b ∉ owns ms vs := fun {b} hb z => by
    obtain ⟨i, hi, e⟩ := a.sub b z
    obtain ⟨oc, e'⟩ := mem_cels hi
    obtain ⟨b', h1, _, h2, _⟩ := R.own e'
    rw [e] at h1; cases h1
    exact hb h2
  have slot : ∀ {i : Nat} {oc : OC}, (wb env ws outs)[i]? = some (some (.own oc)) → ∃ oc0, env[i]? = some (some (.own oc0)) ∧ ((∃ k : Nat, ws[k]? = some (W.cel i) ∧ ms[k]? = some (M.own oc0) ∧ outs[k]? = some (M.own oc)) ∨ (oc = oc0 ∧ ∀ k : Nat, ws[k]? ≠ some (W.cel i))) := fun {i oc} e => by
    rw [wb_get] at e
    cases hE : env[i]? with
    | none => rw [hE] at e; cases e
    | some m =>
      rw [hE] at e
      have e : (match fnd i ws outs with | some oc => some (M.own oc) | none => m) = some (.own oc) := by simpa using e
      cases hf : fnd i ws outs with
      | none =>
        rw [hf] at e
        have e : m = some (.own oc) := e
        subst e
        refine ⟨oc, rfl, .inr ⟨rfl, fun k z => ?_⟩⟩
        have h1 := a.cel k i oc z hE
        obtain ⟨oc', h2⟩ := shape_own p.shape h1
        exact fnd_none hf z h2
      | some oc' =>
        rw [hf] at e
        have e : some (M.own oc') = some (.own oc) := e
        cases e
        obtain ⟨k, h1, h2⟩ := fnd_some hf
        obtain ⟨oc0, h3⟩ := shape_own' p.shape h2
        obtain ⟨i', h4, h5, h6⟩ := a.own k oc0 h3
        rw [h1] at h4; cases h4
        rw [hE] at h5
        cases h5
        exact ⟨oc0, rfl, .inl ⟨k, h1, h3, h2⟩⟩
  have valS : ∀ {i : Nat} {d : D}, (wb env ws outs)[i]? = some (some (.val d)) → env[i]? = some (some (.val d)) := fun {i d} e => by
    rw [wb_get] at e
    cases hE : env[i]? with
    | none => rw [hE] at e; cases e
    | some m =>
      rw [hE] at e
      have e : (match fnd i ws outs with | some oc => some (M.own oc) | none => m) = some (.val d) := by simpa using e
      cases hf : fnd i ws outs with
      | none => rw [hf] at e; exact congrArg some e
      | some oc' => rw [hf] at e; cases e
  have paired_get : ∀ {ms : List M} {vs : List V} {k : Nat} {m : M} {Hx Hy : Hp}, Paired (MR K Hx Hy) ms vs → ms[k]? = some m → ∃ v, vs[k]? = some v ∧ MR K Hx Hy m v := by
    intro ms
    induction ms with
    | nil => intro vs k m Hx Hy h e; simp at e
    | cons m0 ms ih =>
      intro vs k m Hx Hy h e
      cases h with
      | cons x r =>
        cases k with
        | zero => have : m0 = m := by simpa using e
                  subst this; exact ⟨_, rfl, x⟩
        | succ k =>
          obtain ⟨v, h1, h2⟩ := ih r (k := k) (by simpa using e)
          exact ⟨v, by simpa using h1, h2⟩
  refine ⟨by unfold wb; rw [wbA_len]; exact R.len, fun {i d} e => ?_, fun {i oc} e => ?_, fun {i j o1 o2 b} e1 e2 e3 e4 => ?_, p.s, fun b o e => ?_, fun b o e => ?_, fun P hP => ?_, R.fix, R.xv.mn p.b⟩
  · obtain ⟨v, h1, h2⟩ := R.val (valS e)
    exact ⟨v, h1, h2.mn p.b⟩
  · obtain ⟨oc0, hE, h⟩ := slot e
    obtain ⟨b, h1, h2, h3, h4⟩ := R.own hE
    rcases h with ⟨k, k1, k2, k3⟩ | ⟨rfl, hno⟩
    · obtain ⟨i', j1, j2, j3⟩ := a.own k oc0 k2
      rw [k1] at j1; cases j1
      obtain ⟨v, hv, b', rfl, q1, q2⟩ := paired_get p.args k3
      rw [hv, h1] at j3
      have j3 : V.ref b = V.ref b' := by simpa using j3
      cases j3
      exact ⟨b, h1, q1, h3, q2⟩
    · obtain ⟨o, ho⟩ := h4.there
      have nb : b ∉ owns ms vs := fun z => by
        obtain ⟨k, oc', z1, z2⟩ := mem_owns a.rel z
        obtain ⟨i', z3, z4, z5⟩ := a.own k oc' z1
        rw [z2] at z5
        have := R.inj hE z4 h1 (by simpa using z5)
        subst this
        exact hno k z3
      have nT : b ∉ c.T := fun z => h4.notab (R.tab b z).1 rfl
      exact ⟨b, h1, by rw [p.n b o ho]; exact h2, h3, h4.mn p.b fun o' q => p.keep _ _ q nb nT⟩
  · obtain ⟨x1, y1, _⟩ := slot e1
    obtain ⟨x2, y2, _⟩ := slot e2
    exact R.inj y1 y2 e3 e4
  · refine p.keep b o (R.frm b o e) (notO (by rw [e]; simp)) fun z => ?_
    have := (R.tab b z).2.2
    rw [e] at this; cases this
  · rw [p.n b o (R.frm b o e)]
    exact R.frb b o e
  · obtain ⟨h1, h2⟩ := p.tab P hP
    exact ⟨h1, h2, (R.tab P hP).2.2⟩
@[simp] def vCall (sp : VSp) (t : VTA) : VT := fun env Q QX => t env (fun ws env1 => argMs ws env1 fun ms => (cels ws env1).Nodup ∧ sp ms (fun w outs => Q w (wb env1 ws outs)) fun C fs outs => QX C fs (wb env1 ws outs)) QX
theorem ro_rw {f : Fm} {Hb H Hb' H' : Hp} {env env' : Env} {σ : L2.St} {w : W} {v : V} (R : Rl K c f Hb env σ H) (R' : Rl K c f Hb' env' σ H') (hs : ∀ (i : Nat) (oc : OC), env'[i]? = some (some (.own oc)) → ∃ oc', env[i]? = some (some (.own oc'))) (h : RO K Hb' H H' w v) : RW K f Hb' env' σ H' w v := by
  cases w with
  | val d => exact h
  | cel i => exact h.elim
  | tmp oc =>
    obtain ⟨a, e, h1, h2, h3⟩ := h
    refine ⟨a, e, h1, R.frm.free h2, h3, fun i oc' hi q => ?_⟩
    obtain ⟨oc2, hi2⟩ := hs i oc' hi
    obtain ⟨a', q', _, _, h4⟩ := R.own hi2
    rw [q] at q'; cases q'
    obtain ⟨o, ho⟩ := h4.there
    rw [h2] at ho; cases ho
theorem wb_own {env : Env} {ws : List W} {ms outs : List M} {f : Fm} {Hb H : Hp} {σ : L2.St} {vs : List V} (a : ArgsOk K f Hb H env σ ws ms vs) (sh : sameShape ms outs) (i : Nat) (oc : OC) (e : (wb env ws outs)[i]? = some (some (.own oc))) : ∃ oc', env[i]? = some (some (.own oc')) := by
  rw [wb_get] at e
  cases hE : env[i]? with
  | none => rw [hE] at e; cases e
  | some m =>
    rw [hE] at e
    have e : (match fnd i ws outs with | some oc => some (M.own oc) | none => m) = some (.own oc) := by simpa using e
    cases hf : fnd i ws outs with
    | none => rw [hf] at e; exact ⟨oc, congrArg some e⟩
    | some oc' =>
      obtain ⟨k, h1, h2⟩ := fnd_some hf
      obtain ⟨oc0, h3⟩ := shape_own' sh h2
      obtain ⟨i', h4, h5, h6⟩ := a.own k oc0 h3
      rw [h1] at h4; cases h4
      rw [hE] at h5
      exact ⟨oc0, h5⟩
theorem sp_run {f : Fm} {Hb H : Hp} {env : Env} {σ : L2.St} {ws : List W} {vs : List V} {sp : VSp} {Q : VQ} {QX : VX} {Q' : VK} (R : Rl K c f Hb env σ H) (r : RSs K Hb σ ws vs)
    (q : argMs ws env fun ms => (cels ws env).Nodup ∧ sp ms (fun w outs => Q w (wb env ws outs)) fun C fs outs => QX C fs (wb env ws outs))
    (px : PX K c f Wx Hb σ QX) (k : ∀ w env' v H' Hb', Same Hb Hb' → Rl K c f Hb' env' σ H' → RW K f Hb' env' σ H' w v → Q w env' → Q' v H') : spOf K c.T sp vs H Q' (fun cls d H' => Wx cls d σ H') := by
  obtain ⟨ms, a, nd, q⟩ := R.argMs r q
  refine ⟨Hb, ms, _, _, ⟨R.sub, a.rel, a.nd nd, fun P hP => ⟨(R.tab P hP).1, (R.tab P hP).2.1⟩⟩, q, fun w outs qw v H' Hb' p ro => ?_, fun C fs outs qx d H' Hb' p xr => ?_⟩
  · have R' := R.post a p
    exact k w _ v H' Hb' p.b R' (ro_rw R R' (wb_own a p.shape) ro) qw
  · exact px C fs _ d H' Hb' p.b (R.post a p) xr qx
theorem ve_call {CX : CXT} {k : Nat} {fa : Addr} {fd : FuncData} {ps : List Str} {sp : VSp} {x : Str} {p pos : Pos} {e : Expr} {es : List Expr} {t : TA} {v : VTA} (F : FnOk X.prog X.w X.K X.mg X.base CX k fa fd ps (spOf X.K c.T sp)) (hr : Room k X.A) (hm : X.mg x = some (.ref fa)) (hk : PySem.W.keepIn X.K (.ref fa) = true) (hb : Binds X.K fd ps []) (hx : ∀ σ, PassesAt CX X σ (WE Wx σ))
    (ha : VA X c Wx (e :: es) t v) (hg : Gl X x := by rfl) (hdb : (x == ("__debug__" : Str)) = false := by decide) (he : starEach (e :: es) X.env = (false, eval e X.env) :: starEach es X.env := by rfl) (hpl : (backTo pos (starEach es X.env)).any (·.1) = false := by rfl) :
    VE X c Wx (.Call (.Name x p) (e :: es) [] pos) (tCallSD (spOf X.K c.T sp) [] (WE Wx) t) (vCall sp v) := by
  refine ⟨pe_callSD F hr hg hm hk hb .nil hx ha.pa hdb he hpl, fun f Hb env σ H Q QX Q' R q px k => ?_⟩
  refine ha.sim f Hb env σ H _ QX _ R q px fun ws env1 vs H1 Hb1 s1 R1 r1 q1 => ?_
  show spOf X.K c.T sp (vs ++ []) H1 Q' (WE Wx σ)
  rw [List.append_nil]
  exact sp_run R1 r1 q1 (px.mn s1) fun w env' v H' Hb' s2 R2 rw q2 => k w env' v H' Hb' (s1.trans s2) R2 rw q2
end
end VL
set_option Elab.async false
set_option linter.all false
set_option maxRecDepth 100000
set_option maxHeartbeats 4000000
namespace VL
open PySem PySem.Spec PyProof.Rows L2
variable [CM]
structure VEnds where
  nx : Env → Prop
  rt : W → Env → Prop
  bk : Env → Prop
  ct : Env → Prop
  ex : VX
abbrev VS := VEnds → Env → Prop
structure EndsR (K : PySem.W.Frag) (c : VC) (f : Fm) (Wx : WX) (Hb : Hp) (DV : VEnds) (D : Ends) : Prop where
  nx : ∀ env' σ' H' Hb', Same Hb Hb' → Rl K c f Hb' env' σ' H' → DV.nx env' → D.nx σ' H'
  rt : ∀ w env' v σ' H' Hb', Same Hb Hb' → Rl K c f Hb' env' σ' H' → RW K f Hb' env' σ' H' w v → DV.rt w env' → D.rt v H'
  bk : ∀ env' σ' H' Hb', Same Hb Hb' → Rl K c f Hb' env' σ' H' → DV.bk env' → D.bk σ' H'
  ct : ∀ env' σ' H' Hb', Same Hb Hb' → Rl K c f Hb' env' σ' H' → DV.ct env' → D.ct σ' H'
  ex : ∀ C fs env' d σ' H' Hb', Same Hb Hb' → Rl K c f Hb' env' σ' H' → XR K C Hb' H' d fs → DV.ex C fs env' → Wx (.ref (CM.at_ C)) d σ' H'
theorem EndsR.mn {K : PySem.W.Frag} {c : VC} {f : Fm} {Wx : WX} {Hb Hb' : Hp} {DV : VEnds} {D : Ends} (h : EndsR K c f Wx Hb DV D) (s : Same Hb Hb') : EndsR K c f Wx Hb' DV D :=
  ⟨fun e a b d t => h.nx e a b d (s.trans t), fun w e v a b d t => h.rt w e v a b d (s.trans t), fun e a b d t => h.bk e a b d (s.trans t), fun e a b d t => h.ct e a b d (s.trans t), fun C fs e d a b x t => h.ex C fs e d a b x (s.trans t)⟩
theorem EndsR.px {K : PySem.W.Frag} {c : VC} {f : Fm} {Wx : WX} {Hb : Hp} {DV : VEnds} {D : Ends} (h : EndsR K c f Wx Hb DV D) {σ : L2.St} : PX K c f Wx Hb σ DV.ex :=
  fun C fs env' d H' Hb' s R x q => h.ex C fs env' d σ H' Hb' s R x q
def SimS (K : PySem.W.Frag) (c : VC) (Wx : WX) (ts : TS) (t : VS) : Prop := ∀ (f : Fm) (Hb : Hp) (env : Env) (σ : L2.St) (H : Hp) (DV : VEnds) (D : Ends), Rl K c f Hb env σ H → t DV env → EndsR K c f Wx Hb DV D → ts D σ H
structure VSt (X : Cx) (c : VC) (Wx : WX) (st : Stmt) (ts : TS) (t : VS) : Prop where
  ps : PS X st ts
  sim : SimS X.K c Wx ts t
structure VSs (X : Cx) (c : VC) (Wx : WX) (st : List Stmt) (ts : TS) (t : VS) : Prop where
  ps : PSs X st ts
  sim : SimS X.K c Wx ts t
section
variable {K : PySem.W.Frag} {c : VC} {Wx : WX} {X : Cx}
@[simp] def vNext : VS := fun DV env => DV.nx env
@[simp] def vSeq (t u : VS) : VS := fun DV env => t { DV with nx := u DV } env
theorem vss_nil : VSs X c Wx [] tNext vNext := ⟨pss_nil, fun f Hb env σ H DV D R q e => e.nx _ _ _ _ (Same.refl _) R q⟩
theorem vss_one {st : Stmt} {ts : TS} {t : VS} (h : VSt X c Wx st ts t) : VSs X c Wx [st] ts t := ⟨pss_one h.ps, h.sim⟩
theorem vss_cons {st : Stmt} {rest : List Stmt} {ts us : TS} {t u : VS} (h : VSt X c Wx st ts t) (g : VSs X c Wx rest us u) : VSs X c Wx (st :: rest) (tSeq ts us) (vSeq t u) := by
  refine ⟨pss_cons h.ps g.ps, fun f Hb env σ H DV D R q e => ?_⟩
  refine h.sim f Hb env σ H { DV with nx := u DV } { D with nx := us D } R q ⟨fun env' σ' H' Hb' s R' q' => ?_, e.rt, e.bk, e.ct, e.ex⟩
  exact g.sim f Hb' env' σ' H' DV D R' q' (e.mn s)
abbrev VG := D → Env → (Env → Prop) → Prop
abbrev VGs := List D → Env → (Env → Prop) → Prop
def Outside (ss : List Nat) (σ σ' : L2.St) : Prop := σ'.length = σ.length ∧ ∀ j : Nat, j ∉ ss → σ'[j]? = σ[j]?
theorem Outside.refl (ss : List Nat) (σ : L2.St) : Outside ss σ σ := ⟨rfl, fun _ _ => rfl⟩
def SimG (K : PySem.W.Frag) (c : VC) (ss : List Nat) (g : TG) (vg : VG) : Prop := ∀ (f : Fm) (Hb : Hp) (env : Env) (σ : L2.St) (H : Hp) (d : D) (v : V) (Q : Env → Prop) (Q' : L2.St → Hp → Prop), Rl K c f Hb env σ H → Rp K Hb d v → vg d env Q →
  (∀ env' σ' H' Hb', Same Hb Hb' → Rl K c f Hb' env' σ' H' → Outside ss σ σ' → Q env' → Q' σ' H') → g v σ H Q'
def SimGs (K : PySem.W.Frag) (c : VC) (ss : List Nat) (g : TGs) (vg : VGs) : Prop := ∀ (f : Fm) (Hb : Hp) (env : Env) (σ : L2.St) (H : Hp) (ds : List D) (vs : List V) (Q : Env → Prop) (Q' : L2.St → Hp → Prop), Rl K c f Hb env σ H → RpL K Hb ds vs → vg ds env Q →
  (∀ env' σ' H' Hb', Same Hb Hb' → Rl K c f Hb' env' σ' H' → Outside ss σ σ' → Q env' → Q' σ' H') → g vs σ H Q'
structure VGt (X : Cx) (c : VC) (ss : List Nat) (tg : Expr) (g : TG) (vg : VG) : Prop where
  pg : PG X tg g
  sim : SimG X.K c ss g vg
structure VGts (X : Cx) (c : VC) (ss : List Nat) (tg : List Expr) (g : TGs) (vg : VGs) : Prop where
  pg : PGs X tg g
  sim : SimGs X.K c ss g vg
@[simp] def vgName (c : VC) (i : Nat) : VG := fun d env Q => i ∉ c.fx ∧ Q (env.set i (some (.val d)))
theorem Rl.setVal {f : Fm} {Hb H : Hp} {env : Env} {σ : L2.St} {i : Nat} {d : D} {v : V} (R : Rl K c f Hb env σ H) (h : Rp K Hb d v) (hi : i ∉ c.fx) : Rl K c f Hb (env.set i (some (.val d))) (σ.set i (some v)) H := by
  refine ⟨by simpa using R.len, fun {j d'} e => ?_, fun {j oc'} e => ?_, fun {j k o1 o2 b} e1 e2 e3 e4 => ?_, R.sub, R.frm, R.frb, R.tab, fun j hj => ?_, R.xv⟩
  · rcases set_get e with ⟨ee, e2⟩ | ⟨ne, e2⟩
    · cases e2
      subst ee
      have hl : i < σ.length := by
        have := (List.getElem?_eq_some_iff.mp e).1
        rw [List.length_set] at this
        rw [R.len]; exact this
      exact ⟨v, by rw [List.getElem?_set_self hl], h⟩
    · obtain ⟨v', h1, h2⟩ := R.val e2
      exact ⟨v', by rw [List.getElem?_set_ne ne]; exact h1, h2⟩
  · rcases set_get e with ⟨_, e2⟩ | ⟨ne, e2⟩
    · cases e2
    · obtain ⟨a, h1, h2⟩ := R.own e2
      exact ⟨a, by rw [List.getElem?_set_ne ne]; exact h1, h2⟩
  · rcases set_get e1 with ⟨_, e1⟩ | ⟨ne1, e1⟩
    · cases e1
    · rcases set_get e2 with ⟨_, e2⟩ | ⟨ne2, e2⟩
      · cases e2
      · rw [List.getElem?_set_ne ne1] at e3
        rw [List.getElem?_set_ne ne2] at e4
        exact R.inj e1 e2 e3 e4
  · rw [List.getElem?_set_ne (fun z : i = j => hi (z.symm ▸ hj))]
    exact R.fix j hj
theorem Rl.setOwn {f : Fm} {Hb H : Hp} {env : Env} {σ : L2.St} {i : Nat} {oc : OC} {v : V} (R : Rl K c f Hb env σ H) (h : RW K f Hb env σ H (.tmp oc) v) (hi : i ∉ c.fx) : Rl K c f Hb (env.set i (some (.own oc))) (σ.set i (some v)) H := by
  obtain ⟨a, rfl, h1, h2, h3, h4⟩ := h
  refine ⟨by simpa using R.len, fun {j d'} e => ?_, fun {j oc'} e => ?_, fun {j k o1 o2 b} e1 e2 e3 e4 => ?_, R.sub, R.frm, R.frb, R.tab, fun j hj => ?_, R.xv⟩
  · rcases set_get e with ⟨_, e2⟩ | ⟨ne, e2⟩
    · cases e2
    · obtain ⟨v', h1, h2⟩ := R.val e2
      exact ⟨v', by rw [List.getElem?_set_ne ne]; exact h1, h2⟩
  · rcases set_get e with ⟨ee, e2⟩ | ⟨ne, e2⟩
    · cases e2
      subst ee
      have hl : i < σ.length := by
        have := (List.getElem?_eq_some_iff.mp e).1
        rw [List.length_set] at this
        rw [R.len]; exact this
      exact ⟨a, by rw [List.getElem?_set_self hl], h1, h2, h3⟩
    · obtain ⟨a, h1, h2⟩ := R.own e2
      exact ⟨a, by rw [List.getElem?_set_ne ne]; exact h1, h2⟩
  · have hlen : ∀ {z : Option M}, (env.set i z)[i]? ≠ none → i < σ.length := fun {z} hz => by
      have := (List.getElem?_eq_some_iff.mp (Option.isSome_iff_exists.mp (Option.isSome_iff_ne_none.mpr hz)).choose_spec).1
      rw [List.length_set] at this
      rw [R.len]; exact this
    rcases set_get e1 with ⟨r1, e1'⟩ | ⟨ne1, e1'⟩
    · rcases set_get e2 with ⟨r2, e2'⟩ | ⟨ne2, e2'⟩
      · exact r1.symm.trans r2
      · subst r1
        have hl := hlen (z := some (.own oc)) (by rw [e1]; simp)
        rw [List.getElem?_set_self hl] at e3
        rw [List.getElem?_set_ne ne2] at e4
        cases e3
        exact (h4 _ _ e2' e4).elim
    · rcases set_get e2 with ⟨r2, e2'⟩ | ⟨ne2, e2'⟩
      · subst r2
        have hl := hlen (z := some (.own oc)) (by rw [e2]; simp)
        rw [List.getElem?_set_self hl] at e4
        rw [List.getElem?_set_ne ne1] at e3
        cases e4
        exact (h4 _ _ e1' e3).elim
      · rw [List.getElem?_set_ne ne1] at e3
        rw [List.getElem?_set_ne ne2] at e4
        exact R.inj e1' e2' e3 e4
  · rw [List.getElem?_set_ne (fun z : i = j => hi (z.symm ▸ hj))]
    exact R.fix j hj
theorem vg_name {x : Str} {pos : Pos} (i : Nat) (nd : X.N.Nodup) (hi : X.N[i]? = some x := by rfl) (hl : L2.Loc X.env.scope x := by first | exact Or.inl rfl | exact Or.inr rfl) (hf : X.fn x = true ∨ X.env.scope.names.lookup x = some .local := by first | exact .inl rfl | exact .inr rfl) : VGt X c [i] (.Name x pos) (gName i) (vgName c i) :=
  ⟨pg_name nd hi hl hf, fun f Hb env σ H d v Q Q' R h q k => k _ _ _ _ (Same.refl _) (R.setVal h q.1) ⟨List.length_set, fun j hj => List.getElem?_set_ne (fun z => hj (by rw [z]; exact List.mem_singleton.mpr rfl))⟩ q.2⟩
@[simp] def vgNil : VGs := fun ds env Q => ds = [] ∧ Q env
@[simp] def vgCons (g : VG) (u : VGs) : VGs := fun ds env Q => match ds with
  | d :: r => g d env fun env1 => u r env1 Q
  | [] => False
theorem vgs_nil : VGts X c [] [] gNil vgNil := ⟨pgs_nil, fun f Hb env σ H ds vs Q Q' R h q k => by
  obtain ⟨rfl, q⟩ := q
  cases h
  exact ⟨rfl, k _ _ _ _ (Same.refl _) R (.refl _ _) q⟩⟩
theorem vgs_cons {e : Expr} {es : List Expr} {g : TG} {u : TGs} {vg : VG} {vu : VGs} {s1 s2 : List Nat} (h : VGt X c s1 e g vg) (r : VGts X c s2 es u vu) (hs : (assignEach (e :: es) X.env).map (·.2) = assign e X.env :: (assignEach es X.env).map (·.2) := by rfl) : VGts X c (s1 ++ s2) (e :: es) (gCons g u) (vgCons vg vu) := by
  refine ⟨pgs_cons h.pg r.pg hs, fun f Hb env σ H ds vs Q Q' R h1 q k => ?_⟩
  cases ds with
  | nil => exact False.elim q
  | cons d ds =>
    cases h1 with
    | cons a b =>
      refine ⟨_, _, rfl, ?_⟩
      refine h.sim f Hb env σ H d _ _ _ R a q fun env1 σ1 H1 Hb1 s1 R1 n1 q1 => ?_
      exact r.sim f Hb1 env1 σ1 H1 ds _ Q Q' R1 (b.mn s1) q1 fun env2 σ2 H2 Hb2 s2 R2 n2 q2 => k env2 σ2 H2 Hb2 (s1.trans s2) R2 ⟨n2.1.trans n1.1, fun j hj => (n2.2 j fun z => hj (List.mem_append_right _ z)).trans (n1.2 j fun z => hj (List.mem_append_left _ z))⟩ q2
@[simp] def vgTup (n : Nat) (u : VGs) : VG := fun d env Q => match d with
  | .tup ds => ds.length = n ∧ u ds env Q
  | _ => False
theorem vg_tup {es : List Expr} {x1 n : Nat} {pos : Pos} {u : TGs} {vu : VGs} {ss : List Nat} (h : VGts X c ss es u vu) (hc : X.calm = true := by rfl) (hn : (assignEach es X.env).length = n := by rfl) (hst : (assignEach es X.env).findIdx? (·.1) = none := by rfl) : VGt X c ss (.Tuple es x1 pos) (gTup X.K n u) (vgTup n vu) := by
  refine ⟨pg_tup hc h.pg hn hst, fun f Hb env σ H d v Q Q' R h1 q k => ?_⟩
  unfold vgTup at q
  split at q
  · cases h1 with
    | tup s r =>
      exact ⟨_, _, rfl, same_seqT R.sub s.1, by rw [r.length]; exact q.1, h.sim f Hb env σ H _ _ Q Q' R r q.2 k⟩
  · exact q.elim
@[simp] def vgSub (to ti : VT) : VG := fun d env Q => to env (fun w1 env1 => ti env1 (fun w2 env2 => match w1, w2 with
  | .cel j, .val (.int i) => match env2[j]? with
    | some (some (.own (.lst ds))) => ∃ n, ixN ds.length i = some n ∧ Q (env2.set j (some (.own (.lst (ds.set n d)))))
    | _ => False
  | _, _ => False) fun _ _ _ => False) fun _ _ _ => False
theorem Rl.write {f : Fm} {Hb H : Hp} {env : Env} {σ : L2.St} {j : Nat} {ds es : List D} {vs : List V} {a : Addr} (R : Rl K c f Hb env σ H) (hj : env[j]? = some (some (.own (.lst ds)))) (hs : σ[j]? = some (some (.ref a))) (r : RpL K Hb es vs) : Rl K c f Hb (env.set j (some (.own (.lst es)))) σ (upd H a (.lst vs)) := by
  obtain ⟨a', h1, h2, h3, h4⟩ := R.own hj
  rw [hs] at h1; cases h1
  refine ⟨by simpa using R.len, fun {i d} e => ?_, fun {i oc} e => ?_, fun {i k o1 o2 b} e1 e2 e3 e4 => ?_, fun b o e => ?_, fun b o e => ?_, R.frb, fun P hP => ?_, R.fix, R.xv⟩
  · rcases set_get e with ⟨_, e2⟩ | ⟨ne, e2⟩
    · cases e2
    · exact R.val e2
  · rcases set_get e with ⟨ee, e2⟩ | ⟨ne, e2⟩
    · cases e2
      subst ee
      exact ⟨a, hs, h2, h3, vs, upd_same, r⟩
    · obtain ⟨b, g1, g2, g3, g4⟩ := R.own e2
      have nb : b ≠ a := by
        rintro rfl
        exact ne (R.inj hj e2 hs g1)
      exact ⟨b, g1, g2, g3, g4.mn (Same.refl _) fun o q => by rw [upd_ne nb]; exact q⟩
  · have own : ∀ {k : Nat} {o : OC}, (env.set j (some (.own (.lst es))))[k]? = some (some (.own o)) → ∃ o', env[k]? = some (some (.own o')) := fun {k o} e => by
      rcases set_get e with ⟨ee, e2⟩ | ⟨ne, e2⟩
      · subst ee; exact ⟨_, hj⟩
      · exact ⟨_, e2⟩
    obtain ⟨_, y1⟩ := own e1
    obtain ⟨_, y2⟩ := own e2
    exact R.inj y1 y2 e3 e4
  · rw [upd_ne (ne_of_none e h2)]; exact R.sub _ _ e
  · rw [upd_ne (ne_of_none e h3)]; exact R.frm _ _ e
  · obtain ⟨t1, t2, t3⟩ := R.tab P hP
    obtain ⟨ps, e, z⟩ := id t1
    exact ⟨⟨ps, by rw [upd_ne (h4.notab t1)]; exact e, z⟩, t2, t3⟩
theorem vg_sub {o i : Expr} {to ti : TE} {vo vi : VT} {pos : Pos} (ho : VE X c Wx o to vo) (hi : VE X c Wx i ti vi)
    (ha : ∀ v, assign (.Subscript o i pos) X.env v = (do
      let ov ← holding [v] (eval o X.env)
      let iv ← holding [v, ov] (eval i X.env)
      standAt pos
      holding [v, ov, iv] (setItem ov iv v)
      release [v, ov, iv] []) := by intro _; rfl) : VGt X c [] (.Subscript o i pos) (gSub to ti rSetL) (vgSub vo vi) := by
  refine ⟨pg_sub ho.pe hi.pe set_list ha, fun f Hb env σ H d v Q Q' R h q k => ?_⟩
  have px : ∀ Hb, PX X.K c f Wx Hb σ fun _ _ _ => False := fun Hb C fs env' d H' Hb' s R x z => z.elim
  refine ho.sim f Hb env σ H _ _ _ R q (px _) fun w1 env1 v1 H1 Hb1 s1 R1 r1 q1 => ?_
  refine hi.sim f Hb1 env1 σ H1 _ _ _ R1 q1 (px _) fun w2 env2 v2 H2 Hb2 s2 R2 r2 q2 => ?_
  split at q2
  · rename_i j i
    split at q2
    · rename_i ds hj
      obtain ⟨n, hn, q2⟩ := q2
      have r1 : σ[j]? = some (some v1) := r1
      obtain ⟨a, h1, h2, h3, vs, ha, hr⟩ := R2.own hj
      rw [r1] at h1; cases h1
      cases r2
      refine ⟨a, vs, _, n, rfl, rfl, ha, by rw [hr.length]; exact hn, ?_⟩
      exact k _ _ _ _ (s1.trans s2) (R2.write hj r1 (hr.set n (h.mn (s1.trans s2)))) (.refl _ _) q2
    · exact q2.elim
  · exact q2.elim
@[simp] def vAsg (t : VT) (g : VG) : VS := fun DV env => t env (fun w env1 => fz w env1 fun d env2 => g d env2 DV.nx) DV.ex
theorem vst_asg {tg e : Expr} {te : TE} {t : VT} {g : TG} {vg : VG} {pos : Pos} {ss : List Nat} (he : VE X c Wx e te t) (hg : VGt X c ss tg g vg) (hs : swapsWithSole [tg] e pos.line X.env = pure false := by rfl) (hw : swappedStores [tg] e X.env = pure none := by rfl)
    (h1 : (assignEach [tg] X.env).map (·.2) = [assign tg X.env] := by rfl) : VSt X c Wx (.Assign [tg] e pos) (tAsg te g) (vAsg t vg) := by
  refine ⟨ps_asg he.pe hg.pg hs hw h1, fun f Hb env σ H DV D R q e => ?_⟩
  refine he.sim f Hb env σ H _ _ _ R q e.px fun w1 env1 v1 H1 Hb1 s1 R1 r1 q1 => ?_
  obtain ⟨d, env2, Hb2, s2, R2, r2, q2⟩ := R1.fz r1 q1
  exact hg.sim f Hb2 env2 σ H1 d v1 _ _ R2 r2 q2 fun env3 σ3 H3 Hb3 s3 R3 _ q3 => e.nx _ _ _ _ ((s1.trans s2).trans s3) R3 q3
@[simp] def vOwn (c : VC) (i : Nat) (t : VT) : VS := fun DV env => t env (fun w env1 => i ∉ c.fx ∧ match w with
  | .tmp oc => DV.nx (env1.set i (some (.own oc)))
  | .val d => DV.nx (env1.set i (some (.val d)))
  | .cel _ => False) DV.ex
theorem vst_own {x : Str} {e : Expr} {te : TE} {t : VT} {pos pos' : Pos} (i : Nat) (nd : X.N.Nodup) (he : VE X c Wx e te t) (hi : X.N[i]? = some x := by rfl) (hl : L2.Loc X.env.scope x := by first | exact Or.inl rfl | exact Or.inr rfl) (hs : swapsWith e (some (.Name x pos')) pos.line X.env = pure false := by rfl) (hf : X.fn x = true ∨ X.env.scope.names.lookup x = some .local := by first | exact .inl rfl | exact .inr rfl) :
    VSt X c Wx (.Assign [.Name x pos'] e pos) (tAsg te (gName i)) (vOwn c i t) := by
  refine ⟨ps_set nd hi hl he.pe hs hf, fun f Hb env σ H DV D R q e => ?_⟩
  refine he.sim f Hb env σ H _ _ _ R q e.px fun w1 env1 v1 H1 Hb1 s1 R1 r1 q1 => ?_
  obtain ⟨hi, q1⟩ := q1
  cases w1 with
  | tmp oc => exact e.nx _ _ _ _ s1 (R1.setOwn r1 hi) q1
  | val d => exact e.nx _ _ _ _ s1 (R1.setVal r1 hi) q1
  | cel j => exact q1.elim
@[simp] def vSet (c : VC) (i : Nat) (t : VT) : VS := fun DV env => t env (fun w env1 => i ∉ c.fx ∧ fz w env1 fun d env2 => DV.nx (env2.set i (some (.val d)))) DV.ex
theorem vst_set {x : Str} {e : Expr} {te : TE} {t : VT} {pos pos' : Pos} (i : Nat) (nd : X.N.Nodup) (he : VE X c Wx e te t) (hi : X.N[i]? = some x := by rfl) (hl : L2.Loc X.env.scope x := by first | exact Or.inl rfl | exact Or.inr rfl) (hs : swapsWith e (some (.Name x pos')) pos.line X.env = pure false := by rfl) (hf : X.fn x = true ∨ X.env.scope.names.lookup x = some .local := by first | exact .inl rfl | exact .inr rfl) :
    VSt X c Wx (.Assign [.Name x pos'] e pos) (tAsg te (gName i)) (vSet c i t) := by
  refine ⟨ps_set nd hi hl he.pe hs hf, fun f Hb env σ H DV D R q e => ?_⟩
  refine he.sim f Hb env σ H _ _ _ R q e.px fun w1 env1 v1 H1 Hb1 s1 R1 r1 q1 => ?_
  obtain ⟨hi, q1⟩ := q1
  obtain ⟨d, env2, Hb2, s2, R2, r2, q2⟩ := R1.fz r1 q1
  exact e.nx _ _ _ _ (s1.trans s2) (R2.setVal r2 hi) q2
@[simp] def vPar (c : VC) (i j : Nat) (t : VTA) : VS := fun DV env => t env (fun ws env1 => (i ∉ c.fx ∧ j ∉ c.fx) ∧ fzs ws env1 fun ds env2 => match ds with
  | [a, b] => DV.nx ((env2.set i (some (.val a))).set j (some (.val b)))
  | _ => False) DV.ex
@[simp] def vDrop (t : VT) : VS := fun DV env => t env (fun _ env1 => DV.nx env1) DV.ex
theorem vst_expr {e : Expr} {te : TE} {t : VT} {pos : Pos} (he : VE X c Wx e te t) (hs : swapsWith e none pos.line X.env = pure false := by rfl) : VSt X c Wx (.Expr e pos) (tDrop te) (vDrop t) :=
  ⟨ps_expr he.pe hs, fun f Hb env σ H DV D R q e => he.sim f Hb env σ H _ _ _ R q e.px fun w1 env1 v1 H1 Hb1 s1 R1 r1 q1 => e.nx _ _ _ _ s1 R1 q1⟩
@[simp] def vBreak : VS := fun DV env => DV.bk env
@[simp] def vCont : VS := fun DV env => DV.ct env
@[simp] def vRet (c : VC) (t : VT) : VS := fun DV env => t env (fun w env1 => match w with
  | .val d => DV.rt (.val d) env1
  | .tmp oc => DV.rt (.tmp oc) env1
  | .cel i => i ∉ c.fx ∧ match env1[i]? with
    | some (some (.own oc)) => DV.rt (.tmp oc) (env1.set i none)
    | _ => False) DV.ex
theorem Rl.unset {f : Fm} {Hb H : Hp} {env : Env} {σ : L2.St} (R : Rl K c f Hb env σ H) (i : Nat) : Rl K c f Hb (env.set i none) σ H := by
  refine ⟨by simpa using R.len, fun {j d} e => ?_, fun {j oc'} e => ?_, fun {j k o1 o2 b} e1 e2 e3 e4 => ?_, R.sub, R.frm, R.frb, R.tab, R.fix, R.xv⟩
  · rcases set_get e with ⟨_, e⟩ | ⟨_, e⟩
    · cases e
    · exact R.val e
  · rcases set_get e with ⟨_, e⟩ | ⟨_, e⟩
    · cases e
    · exact R.own e
  · rcases set_get e1 with ⟨_, e1⟩ | ⟨_, e1⟩
    · cases e1
    · rcases set_get e2 with ⟨_, e2⟩ | ⟨_, e2⟩
      · cases e2
      · exact R.inj e1 e2 e3 e4
theorem vst_ret {e : Expr} {te : TE} {t : VT} {pos : Pos} (he : VE X c Wx e te t) : VSt X c Wx (.Return (some e) pos) (tRet te) (vRet c t) := by
  refine ⟨ps_ret he.pe, fun f Hb env σ H DV D R q e => ?_⟩
  refine he.sim f Hb env σ H _ _ _ R q e.px fun w1 env1 v1 H1 Hb1 s1 R1 r1 q1 => ?_
  cases w1 with
  | val d => exact e.rt (.val d) _ _ _ _ _ s1 R1 r1 q1
  | tmp oc => exact e.rt (.tmp oc) _ _ _ _ _ s1 R1 r1 q1
  | cel i =>
    obtain ⟨hi, q1⟩ := q1
    have r1 : σ[i]? = some (some v1) := r1
    split at q1
    · rename_i oc hE
      obtain ⟨a, h1, h2, h3, h4⟩ := R1.own hE
      rw [r1] at h1; cases h1
      refine e.rt (.tmp oc) _ _ _ _ _ s1 (R1.unset i) ⟨a, rfl, h2, h3, h4, fun j oc' ej z => ?_⟩ q1
      rcases set_get ej with ⟨_, ej⟩ | ⟨ne, ej⟩
      · cases ej
      · exact ne (R1.inj hE ej r1 z)
    · exact q1.elim
@[simp] def vRetN : VS := fun DV env => DV.rt (.val .non) env
@[simp] def vIfS (t : VTT) (a b : VS) : VS := fun DV env => t env (fun k env1 => if k = true then a DV env1 else b DV env1) DV.ex
theorem vst_if {t : Expr} {a b : List Stmt} {tt : TT} {ta tb : TS} {vt : VTT} {va vb : VS} {pos : Pos} (ht : VTe X c Wx t tt vt) (ha : VSs X c Wx a ta va) (hb : VSs X c Wx b tb vb) : VSt X c Wx (.If t a b pos) (tIfS tt ta tb) (vIfS vt va vb) := by
  refine ⟨ps_if ht.pt ha.ps hb.ps, fun f Hb env σ H DV D R q e => ?_⟩
  refine ht.sim f Hb env σ H _ _ _ R q e.px fun b env1 H1 Hb1 s1 R1 q1 => ?_
  cases b with
  | true =>
    rw [if_pos rfl] at q1 ⊢
    exact ha.sim f Hb1 env1 σ H1 DV D R1 q1 (e.mn s1)
  | false =>
    rw [if_neg Bool.false_ne_true] at q1 ⊢
    exact hb.sim f Hb1 env1 σ H1 DV D R1 q1 (e.mn s1)
structure ItOk (K : PySem.W.Frag) (J : It) (Hb : Hp) (items : List D) : Prop where
  go : ∀ i Hb2 H2, Same Hb Hb2 → Same Hb2 H2 → i < items.length → J.go i H2
  stop : ∀ i Hb2 H2, Same Hb Hb2 → Same Hb2 H2 → items.length ≤ i → J.stop i H2
  yld : ∀ i d x Hb2 H2 H3, Same Hb Hb2 → Same Hb2 H2 → items[i]? = some d → J.yld i H2 x H3 → ∃ Hb3, ExtH Hb2 H2 Hb3 H3 ∧ Rp K Hb3 d x
abbrev VI := Env → (List D → Env → Prop) → VX → Prop
def SimI (K : PySem.W.Frag) (c : VC) (Wx : WX) (wi : TI) (vi : VI) : Prop := ∀ (f : Fm) (Hb : Hp) (env : Env) (σ : L2.St) (H : Hp) (Q : List D → Env → Prop) (QX : VX) (R' : It → Hp → Prop), Rl K c f Hb env σ H → vi env Q QX → PX K c f Wx Hb σ QX →
  (∀ items env' J H' Hb', Same Hb Hb' → Rl K c f Hb' env' σ H' → ItOk K J Hb' items → Q items env' → R' J H') → wi σ H R'
structure VIt (X : Cx) (c : VC) (Wx : WX) (tg iter : Expr) (wi : TI) (vi : VI) : Prop where
  pi : PI X tg iter wi
  sim : SimI X.K c Wx wi vi
def loopF (g : VG) (b : VS) (DV : VEnds) : List D → Env → Prop
  | [], env => DV.nx env
  | d :: ds, env => g d env fun env1 => b { DV with nx := loopF g b DV ds, ct := loopF g b DV ds, bk := DV.nx } env1
@[simp] def vFor (vi : VI) (g : VG) (b : VS) : VS := fun DV env => vi env (fun items env1 => loopF g b DV items env1) DV.ex
theorem vst_for {tg iter : Expr} {b : List Stmt} {wi : TI} {g : TG} {tb : TS} {vi : VI} {vg : VG} {vb : VS} {pos : Pos} (hp : PassesOwn (model X.prog X.w) X.A X.env X.xe) {ss : List Nat} (hi : VIt X c Wx tg iter wi vi) (hg : VGt X c ss tg g vg) (hb : VSs X c Wx b tb vb) (hc : X.calm = true := by rfl)
    (hs : ∀ x, foldedSetIterable iter X.env x = pure x := by intro _; rfl) : VSt X c Wx (.For tg iter b [] pos) (tFor wi g tb) (vFor vi vg vb) := by
  refine ⟨ps_for hp hc hi.pi hg.pg hb.ps hs, fun f Hb env σ H DV D R q e => ?_⟩
  refine hi.sim f Hb env σ H _ _ _ R q e.px fun items env0 J H0 Hb0 s0 R0 it q0 => ?_
  refine ⟨fun i m σ' H' => ∃ env' Hb', Same Hb0 Hb' ∧ Rl X.K c f Hb' env' σ' H' ∧ m = items.length - i ∧ i ≤ items.length ∧ loopF vg vb DV (items.drop i) env', ⟨items.length, env0, Hb0, Same.refl _, R0, by simp, Nat.zero_le _, q0⟩, ?_⟩
  rintro i m σ1 H1 ⟨env1, Hb1, s1, R1, rfl, hi1, q1⟩
  have e1 := e.mn (s0.trans s1)
  by_cases hlt : i < items.length
  · rw [List.drop_eq_getElem_cons hlt] at q1
    refine .inr ⟨it.go i Hb1 H1 s1 R1.sub hlt, fun σ' H' => ∃ env' Hb', Same Hb0 Hb' ∧ Rl X.K c f Hb' env' σ' H' ∧ loopF vg vb DV (items.drop (i + 1)) env', fun σ' H' z => ?_, fun x H2 hy => ?_⟩
    · obtain ⟨env', Hb', z1, z2, z3⟩ := z
      exact ⟨items.length - (i + 1), by omega, env', Hb', z1, z2, rfl, hlt, z3⟩
    · obtain ⟨Hb2, x2, r2⟩ := it.yld i _ x Hb1 H1 H2 s1 R1.sub (List.getElem?_eq_getElem hlt) hy
      refine hg.sim f Hb2 env1 σ1 H2 _ x _ _ (R1.ext x2) r2 q1 fun env3 σ3 H3 Hb3 s3 R3 _ q3 => ?_
      have e3 := e1.mn (x2.b.trans s3)
      have nxt : ∀ env' σ' H' Hb', Same Hb3 Hb' → Rl X.K c f Hb' env' σ' H' → loopF vg vb DV (items.drop (i + 1)) env' → ∃ env'' Hb'', Same Hb0 Hb'' ∧ Rl X.K c f Hb'' env'' σ' H' ∧ loopF vg vb DV (items.drop (i + 1)) env'' :=
        fun env' σ' H' Hb' s R' q' => ⟨env', Hb', (s1.trans (x2.b.trans s3)).trans s, R', q'⟩
      exact hb.sim f Hb3 env3 σ3 H3 _ _ R3 q3 ⟨nxt, e3.rt, e3.nx, nxt, e3.ex⟩
  · have hi2 : i = items.length := by omega
    rw [hi2, List.drop_length] at q1
    exact .inl ⟨it.stop i Hb1 H1 s1 R1.sub (by omega), e1.nx _ _ _ _ (Same.refl _) R1 q1⟩
end
end VL
set_option Elab.async false
set_option linter.all false
set_option maxRecDepth 100000
set_option maxHeartbeats 4000000
namespace VL
open PySem PySem.Spec PyProof.Rows L2
variable [CM]
section
variable {K : PySem.W.Frag} {c : VC} {Wx : WX} {X : Cx}
def iSeq (K : PySem.W.Frag) (te : TE) : TI := fun σ H R => te σ H fun x H1 => (∃ a, x = .ref a ∧ (∃ xs, SqL K H1 a xs) ∧ R (Itl K a) H1) ∨ (∃ a, x = .ref a ∧ (∃ xs, SqT K H1 a xs) ∧ R (Itt K a) H1) ∨ (∃ z, x = .str z ∧ R (Its z) H1)
theorem pi_seq {tg l : Expr} {tl : TE} (hl : PE X l tl) : PI X tg l (iSeq X.K tl) := by
  refine ⟨fun pins s σ H R I h => ?_⟩
  refine thn (hl.run pins s σ H _ I h) fun v s1 ⟨x, H1, I1, r1, q1⟩ => ?_
  rcases q1 with ⟨a, e, ⟨xs, hq⟩, q⟩ | ⟨a, e, ⟨xs, hq⟩, q⟩ | ⟨z, e, q⟩
  · subst e
    cases r1
    obtain ⟨its, rv, p, hz⟩ := I1.list hq
    refine wpAny_pyIter_list p.isList ?_
    refine ⟨s1.heap.objs.size, [s1.heap.objs.size], _, _, H1, rfl, I1.kept (t' := s1.toks) fun b o e => Heap.get?_push_of_some _ e, turn_list a _, ⟨_, Heap.get?_push_size _ rfl, rfl, rfl⟩, fun b hb => ?_, q⟩
    have e : b = s1.heap.objs.size := by simpa using hb
    subst e
    exact I1.fpOk (Nat.le_refl _) (I1.hok.fresh (Nat.le_refl _))
  · subst e
    cases r1
    obtain ⟨its, rv, p, hz⟩ := I1.tuple hq
    refine wpAny_pyIter_tuple (show s1.heap.IsTuple a its.toArray from p) ?_
    refine ⟨s1.heap.objs.size, [s1.heap.objs.size], _, _, H1, rfl, I1.kept (t' := s1.toks) fun b o e => Heap.get?_push_of_some _ e, turn_tuple a _, ⟨_, Heap.get?_push_size _ rfl, rfl, rfl⟩, fun b hb => ?_, q⟩
    have e : b = s1.heap.objs.size := by simpa using hb
    subst e
    exact I1.fpOk (Nat.le_refl _) (I1.hok.fresh (Nat.le_refl _))
  · subst e
    obtain ⟨t, rfl⟩ := r1
    cases ha : z.cps.all (· < 128)
    · exact wpAny_pyIter_wide ha (pi_one (tk := s1.toks) I1 _ (turn_str _ z t "str_iterator" (.inr rfl)) ⟨_, Heap.get?_push_size _ rfl, rfl, rfl⟩ q)
    · exact wpAny_pyIter_ascii ha (pi_one (tk := s1.toks) I1 _ (turn_str _ z t "str_ascii_iterator" (.inl rfl)) ⟨_, Heap.get?_push_size _ rfl, rfl, rfl⟩ q)
@[simp] def seqItems (d : D) (k : List D → Prop) : Prop := match d with
  | .lst ds => k ds
  | .tup ds => k ds
  | .str z => k (z.cps.toList.map fun n => .str ⟨#[n]⟩)
  | _ => False
@[simp] def vSeqI (t : VT) : VI := fun env Q QX => t env (fun w env1 => fz w env1 fun d env2 => seqItems d fun ds => Q ds env2) QX
theorem itOk_l {Hb : Hp} {a : Addr} {vs : List V} {ds : List D} (s : Hb a = some (.lst vs)) (r : RpL K Hb ds vs) : ItOk K (Itl K a) Hb ds := by
  have sq : ∀ {Hb2 H2 : Hp}, Same Hb Hb2 → Same Hb2 H2 → SqL K H2 a vs := fun s1 s2 => .of (s2 _ _ (s1 _ _ s))
  have hl := r.length
  refine ⟨fun i Hb2 H2 s1 s2 hi => ⟨vs, vs[i]'(by omega), sq s1 s2, List.getElem?_eq_getElem _⟩, fun i Hb2 H2 s1 s2 hi => ⟨vs, sq s1 s2, by omega⟩, fun i d x Hb2 H2 H3 s1 s2 hd hy => ?_⟩
  obtain ⟨rfl, hy⟩ := hy
  obtain ⟨v, h1, h2⟩ := r.get hd
  rw [hy vs (sq s1 s2)] at h1; cases h1
  exact ⟨Hb2, .refl s2, h2.mn s1⟩
theorem itOk_t {Hb : Hp} {a : Addr} {vs : List V} {ds : List D} (s : SqT K Hb a vs) (r : RpL K Hb ds vs) : ItOk K (Itt K a) Hb ds := by
  have sq : ∀ {Hb2 H2 : Hp}, Same Hb Hb2 → Same Hb2 H2 → SqT K H2 a vs := fun s1 s2 => same_seqT (s1.trans s2) s
  have hl := r.length
  refine ⟨fun i Hb2 H2 s1 s2 hi => ⟨vs, vs[i]'(by omega), sq s1 s2, List.getElem?_eq_getElem _⟩, fun i Hb2 H2 s1 s2 hi => ⟨vs, sq s1 s2, by omega⟩, fun i d x Hb2 H2 H3 s1 s2 hd hy => ?_⟩
  obtain ⟨rfl, hy⟩ := hy
  obtain ⟨v, h1, h2⟩ := r.get hd
  rw [hy vs (sq s1 s2)] at h1; cases h1
  exact ⟨Hb2, .refl s2, h2.mn s1⟩
theorem itOk_str {Hb : Hp} {z : Str} : ItOk K (Its z) Hb (z.cps.toList.map fun n => .str ⟨#[n]⟩) := by
  refine ⟨fun i Hb2 H2 s1 s2 hi => by show i < z.cps.size; simpa using hi, fun i Hb2 H2 s1 s2 hi => by show z.cps.size ≤ i; simpa using hi, fun i d x Hb2 H2 H3 s1 s2 hd hy => ?_⟩
  obtain ⟨rfl, n, hn, rfl⟩ := hy
  have hn' : z.cps.toList[i]? = some n := by rw [Array.getElem?_toList]; exact hn
  rw [List.getElem?_map, hn'] at hd
  cases hd
  exact ⟨Hb2, .refl s2, .str _⟩
theorem vi_seq {tg e : Expr} {te : TE} {t : VT} (h : VE X c Wx e te t) : VIt X c Wx tg e (iSeq X.K te) (vSeqI t) := by
  refine ⟨pi_seq h.pe, fun f Hb env σ H Q QX R' R q px k => ?_⟩
  refine h.sim f Hb env σ H _ QX _ R q px fun w1 env1 v1 H1 Hb1 s1 R1 r1 q1 => ?_
  obtain ⟨d, env2, Hb2, s2, R2, r2, q2⟩ := R1.fz r1 q1
  unfold seqItems at q2
  split at q2
  · cases r2 with
    | lst s r => exact .inl ⟨_, rfl, ⟨_, .of (R2.sub _ _ s)⟩, k _ _ _ _ _ (s1.trans s2) R2 (itOk_l s r) q2⟩
  · cases r2 with
    | tup s r => exact .inr (.inl ⟨_, rfl, ⟨_, same_seqT R2.sub s.1⟩, k _ _ _ _ _ (s1.trans s2) R2 (itOk_t s.1 r) q2⟩)
  · cases r2
    exact .inr (.inr ⟨_, rfl, k _ _ _ _ _ (s1.trans s2) R2 itOk_str q2⟩)
  · exact q2.elim
@[simp] def vRng1 (t : VTA) : VI := fun env Q QX => t env (fun ws env1 => match ws with
  | [.val (.int j)] => (-(2 ^ 62) ≤ j ∧ j < 2 ^ 62) ∧ Q ((List.range j.toNat).map fun k => .int (k : Nat)) env1
  | _ => False) QX
@[simp] def vRng2 (t : VTA) : VI := fun env Q QX => t env (fun ws env1 => match ws with
  | [.val (.int i), .val (.int j)] => (-(2 ^ 62) ≤ i ∧ i < 2 ^ 62 ∧ -(2 ^ 62) ≤ j ∧ j < 2 ^ 62) ∧ Q ((List.range (j - i).toNat).map fun k => .int (i + (k : Nat))) env1
  | _ => False) QX
theorem itOk_r {Hb : Hp} {lo : Int} {n : Nat} : ItOk K (Itr lo n) Hb ((List.range n).map fun k => .int (lo + (k : Nat))) := by
  refine ⟨fun i Hb2 H2 s1 s2 hi => by show i < n; simpa using hi, fun i Hb2 H2 s1 s2 hi => by show n ≤ i; simpa using hi, fun i d x Hb2 H2 H3 s1 s2 hd hy => ?_⟩
  obtain ⟨rfl, rfl⟩ := hy
  rw [List.getElem?_map] at hd
  cases q : (List.range n)[i]? with
  | none => rw [q] at hd; cases hd
  | some k =>
    rw [q] at hd
    cases hd
    obtain ⟨h1, h2⟩ := List.getElem?_eq_some_iff.mp q
    rw [List.getElem_range] at h2
    subst h2
    exact ⟨Hb2, .refl s2, .int _⟩
theorem vi_range1 {tg a : Expr} {ta : TA} {t : VTA} {p pos : Pos} (hm : X.mg "range" = none) (ha : VA X c Wx [a] ta t) (hg : Gl X "range" := by rfl) (hs : starEach [a] X.env = [(false, eval a X.env)] := by rfl) : VIt X c Wx tg (.Call (.Name "range" p) [a] [] pos) (iRng1 ta) (vRng1 t) := by
  refine ⟨pi_range1 hg hm ha.pa hs, fun f Hb env σ H Q QX R' R q px k => ?_⟩
  refine ha.sim f Hb env σ H _ QX _ R q px fun ws env1 vs H1 Hb1 s1 R1 r1 q1 => ?_
  split at q1
  · rename_i j
    obtain ⟨v, rfl, r⟩ := paired1 r1
    have r : Rp X.K Hb1 (.int j) v := r
    cases r
    refine ⟨j, rfl, q1.1.1, q1.1.2, k _ _ _ _ _ s1 R1 itOk_r ?_⟩
    have e : ((List.range j.toNat).map fun k => D.int (0 + (k : Nat))) = (List.range j.toNat).map fun k => D.int (k : Nat) := by
      congr 1
      funext k
      rw [Int.zero_add]
    rw [e]
    exact q1.2
  · exact q1.elim
@[simp] def vRev (t : VT) : VI := fun env Q QX => t env (fun w env1 => fz w env1 fun d env2 => match d with
  | .lst ds => Q ds.reverse env2
  | .tup ds => Q ds.reverse env2
  | _ => False) QX
@[simp] def vApp (to : VT) (t : VTA) : VT := fun env Q QX => to env (fun w env1 => match w with
  | .cel j => match env1[j]? with
    | some (some (.own (.lst _))) => t env1 (fun ws env2 => match ws with
      | [w1] => fz w1 env2 fun d env3 => match env3[j]? with
        | some (some (.own (.lst ds))) => ds.length < sizeLine ∧ Q (.val .non) (env3.set j (some (.own (.lst (ds ++ [d])))))
        | _ => False
      | _ => False) QX
    | _ => False
  | _ => False) QX
theorem ve_append {o e : Expr} {to : TE} {vo : VT} {t : TA} {v : VTA} {apos cpos : Pos} (ho : VE X c Wx o to vo) (ha : VA X c Wx [e] t v)
    (hbase : attributeBase o "append" X.env (eval o X.env) = eval o X.env := by rfl)
    (hfew : ((backTo cpos (starEach [e] X.env)).all (fun x => !x.1) && (backToKw cpos (keywordEach [] X.env)).all (fun x => x.1.isSome)
      && decide ([e].length + ([] : List Keyword).length + (if ([] : List Keyword).isEmpty then 0 else 1) < 30)) = true := by rfl)
    (hline : (apos.endLine == cpos.line) = true := by rfl) (hs : starEach [e] X.env = (false, eval e X.env) :: starEach [] X.env := by rfl) (hplain : (backTo cpos (starEach [] X.env)).any (·.1) = false := by rfl) :
    VE X c Wx (.Call (.Attribute o "append" apos) [e] [] cpos) (tBM X.K "list" rAppend to t) (vApp vo v) := by
  refine ⟨pe_bm PySem.F.plainAttrs_list PySem.F.slot_list_append PySem.F.type_list_append mt_append ho.pe ha.pa hbase hfew hline hs hplain, fun f Hb env σ H Q QX Q' R q px k => ?_⟩
  refine ho.sim f Hb env σ H _ QX _ R q px fun w1 env1 v1 H1 Hb1 s1 R1 r1 q1 => ?_
  split at q1
  · rename_i j
    have r1 : σ[j]? = some (some v1) := r1
    split at q1
    · rename_i ds0 hj
      obtain ⟨a, h1, h2, h3, vs, ha1, hr⟩ := R1.own hj
      rw [r1] at h1; cases h1
      refine ⟨.inl ⟨rfl, vs, .of ha1⟩, ?_⟩
      refine ha.sim f Hb1 env1 σ H1 _ QX _ R1 q1 (px.mn s1) fun ws env2 us H2 Hb2 s2 R2 r2 q2 => ?_
      split at q2
      · rename_i w
        obtain ⟨u, rfl, ru⟩ := paired1 r2
        obtain ⟨d, env3, Hb3, s3, R3, r3, q3⟩ := R2.fz (RS.rw ru) q2
        split at q3
        · rename_i ds hj3
          obtain ⟨a', g1, g2, g3, vs3, ha3, hr3⟩ := R3.own hj3
          rw [r1] at g1; cases g1
          refine ⟨a, vs3, u, rfl, rfl, ha3, by rw [hr3.length]; exact q3.1, ?_⟩
          exact k (.val .non) _ _ _ _ ((s1.trans s2).trans s3) (R3.write hj3 r1 (hr3.app (.one r3))) .non q3.2
        · exact q3.elim
      · exact q2.elim
    · exact q1.elim
  · exact q1.elim
@[simp] def wipeE (env : Env) : List Nat → Env
  | [] => env
  | v :: vs => (wipeE env vs).set v none
@[simp] def restE (env1 env2 : Env) : List Nat → Env
  | [] => env2
  | v :: vs => (restE env1 env2 vs).set v (env1[v]?.getD none)
theorem wipeE_len (env : Env) : ∀ vs : List Nat, (wipeE env vs).length = env.length
  | [] => rfl
  | v :: vs => by simp [wipeE, wipeE_len]
theorem restE_len (env1 env2 : Env) : ∀ vs : List Nat, (restE env1 env2 vs).length = env2.length
  | [] => rfl
  | v :: vs => by simp [restE, restE_len]
theorem wipeE_get (env : Env) : ∀ (vs : List Nat) (j : Nat) (m : M), (wipeE env vs)[j]? = some (some m) → env[j]? = some (some m) ∧ j ∉ vs
  | [], j, m, h => ⟨h, by simp⟩
  | v :: vs, j, m, h => by
    rcases set_get h with ⟨_, e⟩ | ⟨ne, e⟩
    · cases e
    · obtain ⟨h1, h2⟩ := wipeE_get env vs j m e
      exact ⟨h1, by simp only [List.mem_cons, not_or]; exact ⟨fun z => ne z.symm, h2⟩⟩
theorem wipe_out {σ : L2.St} : ∀ {vs : List Nat} {j : Nat}, j ∉ vs → (wipe σ vs)[j]? = σ[j]?
  | [], j, _ => rfl
  | v :: vs, j, h => by
    simp only [List.mem_cons, not_or] at h
    unfold wipe
    rw [List.getElem?_set_ne (fun z => h.1 z.symm)]
    exact wipe_out h.2
theorem wipe_in {σ : L2.St} : ∀ {vs : List Nat} {j : Nat}, j ∈ vs → (wipe σ vs)[j]? = if j < σ.length then some none else none
  | [], j, h => by simp at h
  | v :: vs, j, h => by
    unfold wipe
    by_cases e : v = j
    · subst e
      by_cases hl : v < σ.length
      · rw [List.getElem?_set_self (by rw [wipe_length]; exact hl), if_pos hl]
      · rw [List.getElem?_eq_none (by rw [List.length_set, wipe_length]; omega), if_neg hl]
    · rw [List.getElem?_set_ne e]
      exact wipe_in ((List.mem_cons.mp h).resolve_left (fun z => e z.symm))
theorem wipe_eq {σ τ : L2.St} {vs : List Nat} (hl : τ.length = σ.length) (h : ∀ j, j ∉ vs → τ[j]? = σ[j]?) : wipe τ vs = wipe σ vs := by
  apply List.ext_getElem?
  intro j
  by_cases hj : j ∈ vs
  · rw [wipe_in hj, wipe_in hj, hl]
  · rw [wipe_out hj, wipe_out hj]
    exact h j hj
theorem wipe_wipe {σ : L2.St} {vs : List Nat} : wipe (wipe σ vs) vs = wipe σ vs := wipe_eq (wipe_length _ _) fun j hj => wipe_out hj
theorem restE_get (env1 env2 : Env) : ∀ (vs : List Nat) (j : Nat) (m : M), (restE env1 env2 vs)[j]? = some (some m) → (j ∈ vs ∧ env1[j]? = some (some m)) ∨ (j ∉ vs ∧ env2[j]? = some (some m))
  | [], j, m, h => .inr ⟨by simp, h⟩
  | v :: vs, j, m, h => by
    rcases set_get h with ⟨rfl, e⟩ | ⟨ne, e⟩
    · refine .inl ⟨List.mem_cons_self, ?_⟩
      cases q : env1[v]? with
      | none => rw [q] at e; cases e
      | some z => rw [q] at e; exact congrArg some e.symm
    · rcases restE_get env1 env2 vs j m e with ⟨h1, h2⟩ | ⟨h1, h2⟩
      · exact .inl ⟨List.mem_cons_of_mem _ h1, h2⟩
      · exact .inr ⟨by simp only [List.mem_cons, not_or]; exact ⟨fun z => ne z.symm, h1⟩, h2⟩
theorem Rl.wipe {f : Fm} {Hb H : Hp} {env : Env} {σ : L2.St} {vs : List Nat} (R : Rl K c f Hb env σ H) (hv : ∀ v ∈ vs, v ∉ c.fx) : Rl K c f Hb (wipeE env vs) (L2.wipe σ vs) H := by
  refine ⟨by rw [wipe_length, wipeE_len]; exact R.len, fun {j d} e => ?_, fun {j oc} e => ?_, fun {i j o1 o2 b} e1 e2 e3 e4 => ?_, R.sub, R.frm, R.frb, R.tab, fun i hi => ?_, R.xv⟩
  · obtain ⟨h1, h2⟩ := wipeE_get _ _ _ _ e
    obtain ⟨v, h3, h4⟩ := R.val h1
    exact ⟨v, by rw [wipe_out h2]; exact h3, h4⟩
  · obtain ⟨h1, h2⟩ := wipeE_get _ _ _ _ e
    obtain ⟨a, h3, h4⟩ := R.own h1
    exact ⟨a, by rw [wipe_out h2]; exact h3, h4⟩
  · obtain ⟨h1, h2⟩ := wipeE_get _ _ _ _ e1
    obtain ⟨h3, h4⟩ := wipeE_get _ _ _ _ e2
    rw [wipe_out h2] at e3
    rw [wipe_out h4] at e4
    exact R.inj h1 h3 e3 e4
  · rw [wipe_out (fun z => hv i z hi)]
    exact R.fix i hi
def Fm.put (f : Fm) (D : Addr) (o : HO) : Fm := ⟨upd f.Fr D o, fun b => if b = D then none else f.B b, f.fv⟩
theorem Rl.put {f : Fm} {Hb H : Hp} {env : Env} {σ : L2.St} {D : Addr} {o : HO} (R : Rl K c f Hb env σ H) (n : H D = none) : Rl K c (f.put D o) Hb env σ (upd H D o) := by
  have R1 := R.ext (ExtH.newT (o := o) R.sub n)
  have nb := R.sub.free n
  refine ⟨R1.len, R1.val, fun {i oc} e => ?_, R1.inj, R1.sub, fun b u e => ?_, fun b u e => ?_, fun P hP => ?_, R1.fix, R1.xv⟩
  · obtain ⟨a, h1, h2, h3, h4⟩ := R1.own e
    refine ⟨a, h1, h2, ?_, h4⟩
    obtain ⟨a', g1, _, _, g4⟩ := R.own e
    rw [h1] at g1; cases g1
    obtain ⟨u, hu⟩ := g4.there
    show upd f.Fr D o a = none
    rw [upd_ne (ne_of_none hu n)]; exact h3
  · have e : upd f.Fr D o b = some u := e
    by_cases hb : b = D
    · subst hb; rw [upd_same] at e ⊢; exact e
    · rw [upd_ne hb] at e
      exact R1.frm b u e
  · have e : upd f.Fr D o b = some u := e
    show Hb b = if b = D then none else f.B b
    by_cases hb : b = D
    · subst hb; rw [if_pos rfl]; exact nb
    · rw [upd_ne hb] at e
      rw [if_neg hb]
      exact R.frb b u e
  · obtain ⟨h1, h2, h3⟩ := R1.tab P hP
    obtain ⟨ps, g, _⟩ := (R.tab P hP).1
    refine ⟨h1, h2, ?_⟩
    show upd f.Fr D o P = none
    rw [upd_ne (ne_of_none g n)]; exact h3
theorem Rl.atD {f : Fm} {Hb H : Hp} {env : Env} {σ : L2.St} {D : Addr} {o : HO} (R : Rl K c (f.put D o) Hb env σ H) : H D = some o ∧ Hb D = none := by
  have e : (f.put D o).Fr D = some o := upd_same
  refine ⟨R.frm D o e, ?_⟩
  rw [R.frb D o e]
  show (if D = D then none else f.B D) = none
  rw [if_pos rfl]
theorem Rl.reput {f : Fm} {Hb H : Hp} {env : Env} {σ : L2.St} {D : Addr} {o u : HO} (R : Rl K c (f.put D o) Hb env σ H) : Rl K c (f.put D u) Hb env σ (upd H D u) := by
  obtain ⟨hD, nb⟩ := R.atD
  have frN : ∀ {a : Addr}, (f.put D o).Fr a = none → a ≠ D ∧ f.Fr a = none := fun {a} h => by
    have h : upd f.Fr D o a = none := h
    by_cases e : a = D
    · subst e; rw [upd_same] at h; cases h
    · rw [upd_ne e] at h; exact ⟨e, h⟩
  refine ⟨R.len, R.val, fun {i oc} e => ?_, R.inj, fun b z e => ?_, fun b z e => ?_, fun b z e => ?_, fun P hP => ?_, R.fix, R.xv⟩
  · obtain ⟨a, h1, h2, h3, h4⟩ := R.own e
    obtain ⟨n1, n2⟩ := frN h3
    refine ⟨a, h1, h2, ?_, h4.mn (Same.refl _) fun o q => by rw [upd_ne n1]; exact q⟩
    show upd f.Fr D u a = none
    rw [upd_ne n1]; exact n2
  · rw [upd_ne (ne_of_none e nb)]; exact R.sub _ _ e
  · have e : upd f.Fr D u b = some z := e
    by_cases hb : b = D
    · subst hb; rw [upd_same] at e ⊢; exact e
    · rw [upd_ne hb] at e ⊢
      exact R.frm b z (show upd f.Fr D o b = some z by rw [upd_ne hb]; exact e)
  · have e : upd f.Fr D u b = some z := e
    show Hb b = if b = D then none else f.B b
    by_cases hb : b = D
    · subst hb; rw [if_pos rfl]; exact nb
    · rw [upd_ne hb] at e
      exact R.frb b z (show upd f.Fr D o b = some z by rw [upd_ne hb]; exact e)
  · obtain ⟨h1, h2, h3⟩ := R.tab P hP
    obtain ⟨n1, n2⟩ := frN h3
    obtain ⟨ps, g, z⟩ := h1
    refine ⟨⟨ps, by rw [upd_ne n1]; exact g, z⟩, h2, ?_⟩
    show upd f.Fr D u P = none
    rw [upd_ne n1]; exact n2
theorem Rl.unput {f : Fm} {Hb H : Hp} {env : Env} {σ : L2.St} {D : Addr} {o : HO} (R : Rl K c (f.put D o) Hb env σ H) (hf : f.Fr D = none) : Rl K c f Hb env σ H := by
  have frN : ∀ {a : Addr}, (f.put D o).Fr a = none → f.Fr a = none := fun {a} h => by
    have h : upd f.Fr D o a = none := h
    by_cases e : a = D
    · subst e; exact hf
    · rw [upd_ne e] at h; exact h
  refine ⟨R.len, R.val, fun {i oc} e => ?_, R.inj, R.sub, fun b z e => ?_, fun b z e => ?_, fun P hP => ?_, R.fix, R.xv⟩
  · obtain ⟨a, h1, h2, h3, h4⟩ := R.own e
    exact ⟨a, h1, h2, frN h3, h4⟩
  · exact R.frm b z (show upd f.Fr D o b = some z by rw [upd_ne (ne_of_none e hf)]; exact e)
  · have q := R.frb b z (show upd f.Fr D o b = some z by rw [upd_ne (ne_of_none e hf)]; exact e)
    have q : Hb b = if b = D then none else f.B b := q
    rw [if_neg (ne_of_none e hf)] at q
    exact q
  · obtain ⟨h1, h2, h3⟩ := R.tab P hP
    exact ⟨h1, h2, frN h3⟩
abbrev W0 : WX := fun _ _ _ _ => False
abbrev noX : VX := fun _ _ _ => False
theorem px0 {f : Fm} {Hb : Hp} {σ : L2.St} {Wx : WX} : PX K c f Wx Hb σ noX := fun C fs env' d H' Hb' s R x z => z.elim
def compF (vg : VG) (vt : VTT) (ve : VT) (vs : List Nat) (Q : List D → Env → Prop) : List D → List D → Env → Prop
  | [], acc, env => Q acc env
  | d :: ds, acc, env => vg d env fun env1 => vt env1 (fun b env2 => if b = true then ve env2 (fun w env3 => fz w env3 fun d' env4 => acc.length < sizeLine ∧ compF vg vt ve vs Q ds (acc ++ [d']) (wipeE env4 vs)) noX else compF vg vt ve vs Q ds acc (wipeE env2 vs)) noX
def okVs (c : VC) (vs : List Nat) (env : Env) : Prop := ∀ v ∈ vs, v ∉ c.fx ∧ ∀ oc, env[v]? ≠ some (some (.own oc))
@[simp] def vLc (c : VC) (vi : VI) (vg : VG) (vt : VTT) (ve : VT) (vs : List Nat) : VT := fun env Q QX => vi env (fun items env1 => okVs c vs env1 ∧ compF vg vt ve vs (fun acc env2 => Q (.tmp (.lst acc)) (restE env1 env2 vs)) items [] (wipeE env1 vs)) QX
structure VTs (X : Cx) (c : VC) (Wx : WX) (ifs : List Expr) (tt : TT) (vt : VTT) : Prop where
  pts : PTs X ifs tt
  sim : SimT X.K c Wx tt vt
@[simp] def vYes : VTT := fun env Q _ => Q true env
theorem sim_lc {wi : TI} {vi : VI} {g : TG} {vg : VG} {tt : TT} {vt : VTT} {te : TE} {ve : VT} {ss vs : List Nat} (hss : ∀ j ∈ ss, j ∈ vs) (hi : SimI K c Wx wi vi) (hg : SimG K c ss g vg) (ht : SimT K c W0 tt vt) (he : SimE K c W0 te ve) : SimE K c Wx (tLc wi g tt te vs) (vLc c vi vg vt ve vs) := by
  intro f Hb env σ H Q QX Q' R q px k
  refine hi f Hb env σ H _ QX _ R q px fun items env1 J H1 Hb1 s1 R1 it q1 => ?_
  obtain ⟨hv, q1⟩ := q1
  intro D nD
  have Rw := (R1.wipe fun v hv' => (hv v hv').1).put (o := .lst []) nD
  refine ⟨fun i m H' => ∃ env' Hb' acc accV, Same Hb1 Hb' ∧ Rl K c (f.put D (.lst accV)) Hb' env' (L2.wipe σ vs) H' ∧ RpL K Hb' acc accV ∧ m = items.length - i ∧ i ≤ items.length ∧
    compF vg vt ve vs (fun acc env2 => Q (.tmp (.lst acc)) (restE env1 env2 vs)) (items.drop i) acc env', ⟨items.length, _, Hb1, [], [], Same.refl _, Rw, .nil, by simp, Nat.zero_le _, q1⟩, ?_⟩
  rintro i m H2 ⟨env2, Hb2, acc, accV, s2, R2, ra, rfl, hi2, q2⟩
  by_cases hlt : i < items.length
  · rw [List.drop_eq_getElem_cons hlt] at q2
    refine .inr ⟨it.go i Hb2 H2 s2 R2.sub hlt, fun H' => ∃ env' Hb' acc accV, Same Hb1 Hb' ∧ Rl K c (f.put D (.lst accV)) Hb' env' (L2.wipe σ vs) H' ∧ RpL K Hb' acc accV ∧
      compF vg vt ve vs (fun acc env2 => Q (.tmp (.lst acc)) (restE env1 env2 vs)) (items.drop (i + 1)) acc env', fun H' z => ?_, fun x H3 hy => ?_⟩
    · obtain ⟨env', Hb', a, av, z1, z2, z3, z4⟩ := z
      exact ⟨items.length - (i + 1), by omega, env', Hb', a, av, z1, z2, z3, rfl, hlt, z4⟩
    · obtain ⟨Hb3, x3, r3⟩ := it.yld i _ x Hb2 H2 H3 s2 R2.sub (List.getElem?_eq_getElem hlt) hy
      refine hg _ Hb3 env2 _ H3 _ x _ _ (R2.ext x3) r3 q2 fun env4 σ4 H4 Hb4 s4 R4 n4 q4 => ?_
      have hw : L2.wipe σ4 vs = L2.wipe σ vs := by
        rw [← wipe_wipe (σ := σ)]
        exact wipe_eq n4.1 fun j hj => n4.2 j fun z => hj (hss j z)
      refine ⟨hw, ?_⟩
      refine ht _ Hb4 env4 σ4 H4 _ noX _ R4 q4 px0 fun b env5 H5 Hb5 s5 R5 q5 => ?_
      cases b with
      | true =>
        rw [if_pos rfl] at q5 ⊢
        refine he _ Hb5 env5 σ4 H5 _ noX _ R5 q5 px0 fun w env6 v6 H6 Hb6 s6 R6 r6 q6 => ?_
        obtain ⟨d', env7, Hb7, s7, R7, r7, hz, q7⟩ := R6.fz r6 q6
        obtain ⟨hD, _⟩ := R7.atD
        have ss := ((((x3.b.trans s4).trans s5).trans s6).trans s7)
        refine ⟨accV, hD, by rw [ra.length]; exact hz, wipeE env7 vs, Hb7, acc ++ [d'], accV ++ [v6], s2.trans ss, ?_, (ra.mn ss).app (.one r7), q7⟩
        rw [← hw]
        exact (R7.wipe fun v hv' => (hv v hv').1).reput
      | false =>
        rw [if_neg Bool.false_ne_true] at q5 ⊢
        have ss := ((x3.b.trans s4).trans s5)
        refine ⟨wipeE env5 vs, Hb5, acc, accV, s2.trans ss, ?_, ra.mn ss, q5⟩
        rw [← hw]
        exact R5.wipe fun v hv' => (hv v hv').1
  · have hi3 : i = items.length := by omega
    rw [hi3, List.drop_length] at q2
    refine .inl ⟨it.stop i Hb2 H2 s2 R2.sub (by omega), ?_⟩
    have q2 : Q (.tmp (.lst acc)) (restE env1 env2 vs) := q2
    obtain ⟨hD, hbD⟩ := R2.atD
    have fD : f.Fr D = none := R1.frm.free nD
    have R3 := R2.unput fD
    have ownD : ∀ {j : Nat} {oc : OC}, (restE env1 env2 vs)[j]? = some (some (.own oc)) → j ∉ vs ∧ env2[j]? = some (some (.own oc)) := fun {j oc} e => by
      rcases restE_get _ _ _ _ _ e with ⟨h1, h2⟩ | h
      · exact ((hv j h1).2 oc h2).elim
      · exact h
    have R4 : Rl K c f Hb2 (restE env1 env2 vs) σ H2 := by
      refine ⟨by rw [restE_len, ← R3.len, wipe_length], fun {j d} e => ?_, fun {j oc} e => ?_, fun {i j o1 o2 b} e1 e2 e3 e4 => ?_, R3.sub, R3.frm, R3.frb, R3.tab, R1.fix, R3.xv⟩
      · rcases restE_get _ _ _ _ _ e with ⟨h1, h2⟩ | ⟨h1, h2⟩
        · obtain ⟨v, h3, h4⟩ := R1.val h2
          exact ⟨v, h3, h4.mn s2⟩
        · obtain ⟨v, h3, h4⟩ := R3.val h2
          rw [wipe_out h1] at h3
          exact ⟨v, h3, h4⟩
      · obtain ⟨h1, h2⟩ := ownD e
        obtain ⟨a, h3, h4⟩ := R3.own h2
        rw [wipe_out h1] at h3
        exact ⟨a, h3, h4⟩
      · obtain ⟨h1, h2⟩ := ownD e1
        obtain ⟨h3, h4⟩ := ownD e2
        exact R3.inj h2 h4 (by rw [wipe_out h1]; exact e3) (by rw [wipe_out h3]; exact e4)
    refine k (.tmp (.lst acc)) _ _ _ _ (s1.trans s2) R4 ⟨D, rfl, hbD, fD, ⟨accV, hD, ra⟩, fun j oc e z => ?_⟩ q2
    obtain ⟨h1, h2⟩ := ownD e
    obtain ⟨a, h3, _, h5, _⟩ := R2.own h2
    rw [wipe_out h1, z] at h3
    cases h3
    have h5 : upd f.Fr D (.lst accV) D = none := h5
    rw [upd_same] at h5; cases h5
end
end VL
set_option Elab.async false
set_option linter.all false
set_option maxRecDepth 100000
set_option maxHeartbeats 4000000
namespace VL
open PySem PySem.Spec PyProof.Rows L2
variable [CM]
section
variable {K : PySem.W.Frag} {c : VC} {Wx : WX} {X : Cx}
theorem sim_own {te : TE} {t : VT} {i : Nat} (h : SimE K c Wx te t) : SimS K c Wx (tAsg te (gName i)) (vOwn c i t) := by
  intro f Hb env σ H DV D R q e
  refine h f Hb env σ H _ _ _ R q e.px fun w1 env1 v1 H1 Hb1 s1 R1 r1 q1 => ?_
  obtain ⟨hi, q1⟩ := q1
  cases w1 with
  | tmp oc => exact e.nx _ _ _ _ s1 (R1.setOwn r1 hi) q1
  | val d => exact e.nx _ _ _ _ s1 (R1.setVal r1 hi) q1
  | cel j => exact q1.elim
theorem sim_set {te : TE} {t : VT} {i : Nat} (h : SimE K c Wx te t) : SimS K c Wx (tAsg te (gName i)) (vSet c i t) := by
  intro f Hb env σ H DV D R q e
  refine h f Hb env σ H _ _ _ R q e.px fun w1 env1 v1 H1 Hb1 s1 R1 r1 q1 => ?_
  obtain ⟨hi, q1⟩ := q1
  obtain ⟨d, env2, Hb2, s2, R2, r2, q2⟩ := R1.fz r1 q1
  exact e.nx _ _ _ _ (s1.trans s2) (R2.setVal r2 hi) q2
structure Blk (X : Cx) (c : VC) (scope : Scope) (own : List (Str × Nat)) (ss : List Nat) (tg elt : Expr) (ifs : List Expr) (g : TG) (vg : VG) (tt : TT) (vt : VTT) (te : TE) (ve : VT) : Prop where
  ok : BlkOk X.N X.env.scope scope own
  sub : ∀ j ∈ ss, j ∈ own.map (·.2)
  g : ∀ (s : Shared) (H : Hp) (C : Addr) (cl : List (Str × Addr)) (fp : List Addr), VGt (X.blk s H scope (compEnvC scope cl C X.env) fp) c ss tg g vg
  t : ∀ (s : Shared) (H : Hp) (C : Addr) (cl : List (Str × Addr)) (fp : List Addr), VTs (X.blk s H scope (compEnvC scope cl C X.env) fp) c W0 ifs tt vt
  e : ∀ (s : Shared) (H : Hp) (C : Addr) (cl : List (Str × Addr)) (fp : List Addr), VE (X.blk s H scope (compEnvC scope cl C X.env) fp) c W0 elt te ve
theorem Blk.sim {scope : Scope} {own : List (Str × Nat)} {ss : List Nat} {tg elt : Expr} {ifs : List Expr} {g : TG} {vg : VG} {tt : TT} {vt : VTT} {te : TE} {ve : VT} {wi : TI} {vi : VI} {iter : Expr} (B : Blk X c scope own ss tg elt ifs g vg tt vt te ve) (hi : VIt X c Wx tg iter wi vi) :
    SimE X.K c Wx (tLc wi g tt te (own.map (·.2))) (vLc c vi vg vt ve (own.map (·.2))) :=
  sim_lc B.sub hi.sim (B.g {} (fun _ => none) 0 [] []).sim (B.t {} (fun _ => none) 0 [] []).sim (B.e {} (fun _ => none) 0 [] []).sim
theorem ve_lc {scope : Scope} {own : List (Str × Nat)} {ss : List Nat} {tg elt iter : Expr} {ifs : List Expr} {g : TG} {vg : VG} {tt : TT} {vt : VTT} {te : TE} {ve : VT} {wi : TI} {vi : VI} {pos : Pos} (nd : X.N.Nodup) (hi : VIt X c Wx tg iter wi vi) (B : Blk X c scope own ss tg elt ifs g vg tt vt te ve) (hc : X.calm = true := by rfl) (hs : ∀ x, foldedSetIterable iter X.env x = pure x := by intro _; rfl) :
    VE X c Wx (.ListComp elt [⟨tg, iter, ifs, 0⟩] scope pos) (tLc wi g tt te (own.map (·.2))) (vLc c vi vg vt ve (own.map (·.2))) :=
  ⟨pe_lc hc nd hi.pi B.ok (fun s H C cl fp => (B.g s H C cl fp).pg) (fun s H C cl fp => (B.t s H C cl fp).pts) (fun s H C cl fp => (B.e s H C cl fp).pe) hs, B.sim hi⟩
theorem vst_setLc {y : Str} {py : Pos} {scope : Scope} {own : List (Str × Nat)} {ss : List Nat} {tg elt iter : Expr} {ifs : List Expr} {g : TG} {vg : VG} {tt : TT} {vt : VTT} {te : TE} {ve : VT} {wi : TI} {vi : VI} {pos spos : Pos} (i : Nat) (nd : X.N.Nodup) (hi : VIt X c Wx tg iter wi vi) (B : Blk X c scope own ss tg elt ifs g vg tt vt te ve)
    (hsw : swapsWith (.ListComp elt [⟨tg, iter, ifs, 0⟩] scope pos) (some (.Name y py)) spos.line X.env = pure true) (hc : X.calm = true := by rfl) (hy : X.N[i]? = some y := by rfl) (hyl : X.env.scope.names.lookup y = some .local := by rfl) (hs : ∀ x, foldedSetIterable iter X.env x = pure x := by intro _; rfl) :
    VSt X c Wx (.Assign [.Name y py] (.ListComp elt [⟨tg, iter, ifs, 0⟩] scope pos) spos) (tAsg (tLc wi g tt te (own.map (·.2))) (gName i)) (vSet c i (vLc c vi vg vt ve (own.map (·.2)))) :=
  ⟨ps_setLc hc nd hy hyl hsw hi.pi B.ok (fun s H C cl fp => (B.g s H C cl fp).pg) (fun s H C cl fp => (B.t s H C cl fp).pts) (fun s H C cl fp => (B.e s H C cl fp).pe) hs, sim_set (B.sim hi)⟩
theorem vst_ownLc {y : Str} {py : Pos} {scope : Scope} {own : List (Str × Nat)} {ss : List Nat} {tg elt iter : Expr} {ifs : List Expr} {g : TG} {vg : VG} {tt : TT} {vt : VTT} {te : TE} {ve : VT} {wi : TI} {vi : VI} {pos spos : Pos} (i : Nat) (nd : X.N.Nodup) (hi : VIt X c Wx tg iter wi vi) (B : Blk X c scope own ss tg elt ifs g vg tt vt te ve)
    (hsw : swapsWith (.ListComp elt [⟨tg, iter, ifs, 0⟩] scope pos) (some (.Name y py)) spos.line X.env = pure true) (hc : X.calm = true := by rfl) (hy : X.N[i]? = some y := by rfl) (hyl : X.env.scope.names.lookup y = some .local := by rfl) (hs : ∀ x, foldedSetIterable iter X.env x = pure x := by intro _; rfl) :
    VSt X c Wx (.Assign [.Name y py] (.ListComp elt [⟨tg, iter, ifs, 0⟩] scope pos) spos) (tAsg (tLc wi g tt te (own.map (·.2))) (gName i)) (vOwn c i (vLc c vi vg vt ve (own.map (·.2)))) :=
  ⟨ps_setLc hc nd hy hyl hsw hi.pi B.ok (fun s H C cl fp => (B.g s H C cl fp).pg) (fun s H C cl fp => (B.t s H C cl fp).pts) (fun s H C cl fp => (B.e s H C cl fp).pe) hs, sim_own (B.sim hi)⟩
end
theorem owns_inj {K : PySem.W.Frag} {Hb H : Hp} : ∀ {ms : List M} {vs : List V} {i j : Nat} {oi oj : OC} {a : Addr}, Paired (MR K Hb H) ms vs → (owns ms vs).Nodup → ms[i]? = some (.own oi) → ms[j]? = some (.own oj) → vs[i]? = some (.ref a) → vs[j]? = some (.ref a) → i = j
  | [], _, i, j, _, _, _, h, _, e, _, _, _ => by simp at e
  | m :: ms, [], i, j, _, _, _, h, _, e, _, _, _ => by cases h
  | m :: ms, v :: vs, i, j, oi, oj, a, h, n, e1, e2, e3, e4 => by
    cases h with
    | cons x r =>
      have tail : (owns ms vs).Nodup := by
        cases m with
        | val d => simpa [owns] using n
        | own oc => obtain ⟨b, rfl, _⟩ := x; exact (List.nodup_cons.mp (show (b :: owns ms vs).Nodup from n)).2
      have head : ∀ {k : Nat} {ok : OC}, m = .own ok → v = .ref a → ∀ {l : Nat} {ol : OC}, ms[l]? = some (.own ol) → vs[l]? = some (.ref a) → False := fun {k ok} em ev {l ol} q1 q2 => by
        subst em ev
        exact (List.nodup_cons.mp (show (a :: owns ms vs).Nodup from n)).1 (owns_mem r q1 q2)
      cases i with
      | zero =>
        cases j with
        | zero => rfl
        | succ j => exact (head (k := 0) (by simpa using e1) (by simpa using e3) (l := j) (by simpa using e2) (by simpa using e4)).elim
      | succ i =>
        cases j with
        | zero => exact (head (k := 0) (by simpa using e2) (by simpa using e4) (l := i) (by simpa using e1) (by simpa using e3)).elim
        | succ j => rw [owns_inj r tail (i := i) (j := j) (by simpa using e1) (by simpa using e2) (by simpa using e3) (by simpa using e4)]
@[simp] def outsOf : List M → Nat → Env → Option (List M)
  | [], _, _ => some []
  | .val d :: ms, k, env => (outsOf ms (k + 1) env).map (.val d :: ·)
  | .own _ :: ms, k, env => match env[k]? with
    | some (some (.own oc)) => (outsOf ms (k + 1) env).map (.own oc :: ·)
    | _ => none
theorem outsOf_shape : ∀ {ms : List M} {k : Nat} {env : Env} {os : List M}, outsOf ms k env = some os → sameShape ms os
  | [], _, _, _, h => by cases h; trivial
  | .val d :: ms, k, env, os, h => by
    unfold outsOf at h
    cases q : outsOf ms (k + 1) env with
    | none => rw [q] at h; cases h
    | some r => rw [q] at h; cases h; exact ⟨rfl, outsOf_shape q⟩
  | .own oc :: ms, k, env, os, h => by
    unfold outsOf at h
    split at h
    · cases q : outsOf ms (k + 1) env with
      | none => rw [q] at h; cases h
      | some r =>
        rw [q] at h; cases h
        exact outsOf_shape (ms := ms) q
    · cases h
theorem outsOf_at : ∀ {ms : List M} {k : Nat} {env : Env} {os : List M} {j : Nat} {oc : OC}, outsOf ms k env = some os → ms[j]? = some (.own oc) → ∃ oc', os[j]? = some (.own oc') ∧ env[k + j]? = some (some (.own oc'))
  | [], _, _, _, j, _, h, e => by simp at e
  | .val d :: ms, k, env, os, 0, oc, h, e => by simp at e
  | .val d :: ms, k, env, os, j + 1, oc, h, e => by
    unfold outsOf at h
    cases q : outsOf ms (k + 1) env with
    | none => rw [q] at h; cases h
    | some r =>
      rw [q] at h; cases h
      obtain ⟨oc', h1, h2⟩ := outsOf_at (j := j) q (by simpa using e)
      exact ⟨oc', by simpa using h1, by rw [show k + (j + 1) = k + 1 + j by omega]; exact h2⟩
  | .own d :: ms, k, env, os, 0, oc, h, e => by
    unfold outsOf at h
    split at h
    · rename_i oc' hE
      cases q : outsOf ms (k + 1) env with
      | none => rw [q] at h; cases h
      | some r =>
        rw [q] at h; cases h
        exact ⟨oc', rfl, hE⟩
    · cases h
  | .own d :: ms, k, env, os, j + 1, oc, h, e => by
    unfold outsOf at h
    split at h
    · cases q : outsOf ms (k + 1) env with
      | none => rw [q] at h; cases h
      | some r =>
        rw [q] at h; cases h
        obtain ⟨oc', h1, h2⟩ := outsOf_at (j := j) q (by simpa using e)
        exact ⟨oc', by simpa using h1, by rw [show k + (j + 1) = k + 1 + j by omega]; exact h2⟩
    · cases h
@[simp] def start0 (n : Nat) (ms : List M) : Env := ms.map some ++ List.replicate (n - ms.length) none
@[simp] def endsOf (ms : List M) (A : W → List M → Prop) (B : Str → List (Str × D) → List M → Prop) : VEnds where
  nx := fun env => ∃ os, outsOf ms 0 env = some os ∧ A (.val .non) os
  rt := fun w env => match w with
    | .cel _ => False
    | w => ∃ os, outsOf ms 0 env = some os ∧ A w os
  bk := fun _ => False
  ct := fun _ => False
  ex := fun C fs env => ∃ os, outsOf ms 0 env = some os ∧ B C fs os
theorem pget {α β : Type} {F : α → β → Prop} : ∀ {as : List α} {bs : List β} {k : Nat} {a : α}, Paired F as bs → as[k]? = some a → ∃ b, bs[k]? = some b ∧ F a b
  | [], _, k, a, h, e => by simp at e
  | x :: as, _, 0, a, h, e => by
    cases h with
    | cons p r =>
      have e1 : x = a := by simpa using e
      subst e1
      exact ⟨_, rfl, p⟩
  | x :: as, _, k + 1, a, h, e => by
    cases h with
    | cons p r =>
      obtain ⟨b, h1, h2⟩ := pget (k := k) r (by simpa using e)
      exact ⟨b, by simpa using h1, h2⟩
theorem paired_of {α β : Type} {F : α → β → Prop} : ∀ {as : List α} {bs : List β}, as.length = bs.length → (∀ (k : Nat) (a : α) (b : β), as[k]? = some a → bs[k]? = some b → F a b) → Paired F as bs
  | [], [], _, _ => .nil
  | [], _ :: _, h, _ => by simp at h
  | _ :: _, [], h, _ => by simp at h
  | a :: as, b :: bs, h, f => .cons (f 0 a b rfl rfl) (paired_of (by simpa using h) fun k x y h1 h2 => f (k + 1) x y (by simpa using h1) (by simpa using h2))
theorem sameShape_len : ∀ {ms os : List M}, sameShape ms os → ms.length = os.length
  | [], [], _ => rfl
  | [], _ :: _, h => h.elim
  | .val _ :: _, [], h => h.elim
  | .own _ :: _, [], h => h.elim
  | .val _ :: ms, .val _ :: os, h => by simp [sameShape_len h.2]
  | .own _ :: ms, .own _ :: os, h => by have h : sameShape ms os := h; simp [sameShape_len h]
  | .val _ :: _, .own _ :: _, h => h.elim
  | .own _ :: _, .val _ :: _, h => h.elim
theorem shape_val : ∀ {ms os : List M} {k : Nat} {d : D}, sameShape ms os → os[k]? = some (.val d) → ms[k]? = some (.val d)
  | [], [], k, oc, _, e => by simp at e
  | [], _ :: _, k, oc, h, e => h.elim
  | .val d :: ms, [], _, _, h, _ => h.elim
  | .own o :: ms, [], _, _, h, _ => h.elim
  | .val d :: ms, .own e :: os, _, _, h, _ => h.elim
  | .own d :: ms, .val e :: os, _, _, h, _ => h.elim
  | .val d :: ms, .val e :: os, 0, x, h, q => by
    have : e = x := by simpa using q
    subst this
    rw [h.1]; rfl
  | .val d :: ms, .val e :: os, k + 1, x, h, q => by simpa using shape_val (k := k) h.2 (by simpa using q)
  | .own d :: ms, .own e :: os, 0, x, h, q => by simp at q
  | .own d :: ms, .own e :: os, k + 1, x, h, q => by
    have h : sameShape ms os := h
    simpa using shape_val (k := k) h (by simpa using q)
section
variable {P : Program} {w : World} {K : PySem.W.Frag} {mg : Str → Option Value} {base : Heap}
structure FunC (K : PySem.W.Frag) (C : Value → Prop) (x qual : Str) (st : Stmt) (f : Addr) (fd : FuncData) : Prop where
  ex : ∃ (o1 : Value) (o2 o3 : Option Addr) (v1 v2 v3 cv v4 : Value) (sl : Array (Option Value)), (fd = PySem.W.fnOf x qual (defArgs st) (defBody st) (defScope st) .none v1 v2 v3 o3 cv v4 ∧ C cv) ∧ K.lookup f = some ⟨o1, o2, .func fd, sl⟩ ∧ PySem.W.codeIn K cv qual = true
theorem FunC.of {x qual : Str} {st : Stmt} {f : Addr} {fd : FuncData} (F : Fun K x qual st f fd) : FunC K (fun _ => True) x qual st f fd := by
  rcases F.ex with ⟨o1, o2, v1, v2, v3, o3, cv, v4, sl, h1, h2, h3⟩
  exact ⟨o1, o2, o3, v1, v2, v3, cv, v4, sl, ⟨h1, trivial⟩, h2, h3⟩
theorem FunC.body {C : Value → Prop} {x qual : Str} {st : Stmt} {f : Addr} {fd : FuncData} {N ps : List Str} {k : Nat} {sp : Sp} (F : FunC K C x qual st f fd) (S : FnScope N ps (defScope st)) (hlen : ∀ vs H Q E, sp vs H Q E → vs.length = ps.length)
    (hb : ∀ (cv : Value), C cv → ∀ (A : Around) (out : List PySem.Env) (s : Shared) (H : Hp) (vs : List V) (Q : VK) (E : XK), Room k (A.deeper (envOfC qual (defScope st) s.heap.objs.size f cv)) → sp vs H Q E →
      ∃ t, PSs (cxOf (L2N.CX P w) P w K mg base N qual (defScope st) f cv A out s H E) (defBody st) t ∧ t { nx := fun _ H' => Q .non H', rt := Q } (L2.start N vs) H) : FnOk P w K mg base (L2N.CX P w) (k + 1) f fd ps sp := by
  rcases F.ex with ⟨o1, o2, o3, v1, v2, v3, cv, v4, sl, ⟨rfl, hC⟩, h2, h3⟩
  exact fn_of h2 h3 S hlen (hb cv hC)
theorem vl_core {K : PySem.W.Frag} {N ps : List Str} {c : VC} {sp : VSp} {t : VS} {ts : TS} {vs : List V} {H : Hp} {Q : VK} {E : XK} (hpre : ps.length ≤ N.length)
    (hfx : ∀ i ∈ c.fx, i < ps.length) (hl : ∀ ms A B, sp ms A B → ms.length = ps.length ∧ ∀ i oc, ms[i]? = some (.own oc) → i ∈ c.fx)
    (hv : SimS K c (fun cls d _ H => E cls d H) ts t) (ht : ∀ ms A B, sp ms A B → t (endsOf ms A B) (start0 N.length ms)) (hxc : c.xc = []) (h : spOf K c.T sp vs H Q E) : ts { nx := fun _ H' => Q .non H', rt := Q } (L2.start N vs) H := by
  obtain ⟨Hb, ms, A', B', p, hs, hA, hB⟩ := h
  obtain ⟨hlen, hmode⟩ := hl ms A' B' hs
  have lv : vs.length = ms.length := p.args.length.symm
  have hpl : ps.length ≤ N.length := hpre
  let fr : Fm := ⟨fun b => if b ∈ owns ms vs ∨ b ∈ c.T then none else H b, Hb, fun i => vs.getD i .non⟩
  have frS : ∀ b o, fr.Fr b = some o → H b = some o ∧ b ∉ owns ms vs ∧ b ∉ c.T := fun b o e => by
    have e : (if b ∈ owns ms vs ∨ b ∈ c.T then none else H b) = some o := e
    split at e
    · cases e
    · rename_i hn
      exact ⟨e, fun z => hn (.inl z), fun z => hn (.inr z)⟩
  have frO : ∀ b, b ∈ owns ms vs → fr.Fr b = none := fun b hb => if_pos (.inl hb)
  have frT : ∀ b, b ∈ c.T → fr.Fr b = none := fun b hb => if_pos (.inr hb)
  have frN : ∀ b o, H b = some o → b ∉ owns ms vs → b ∉ c.T → fr.Fr b = some o := fun b o e h1 h2 => (if_neg (by rintro (z | z); exact h1 z; exact h2 z)).trans e
  have senv : ∀ {i : Nat} {m : M}, (start0 N.length ms)[i]? = some (some m) → ms[i]? = some m := fun {i m} e => by
    unfold start0 at e
    by_cases hi : i < ms.length
    · rw [List.getElem?_append_left (by simpa using hi), List.getElem?_map] at e
      cases q : ms[i]? with
      | none => rw [q] at e; cases e
      | some z => rw [q] at e; exact congrArg some (Option.some.inj (Option.some.inj e))
    · rw [List.getElem?_append_right (by simpa using hi), List.getElem?_replicate] at e
      split at e <;> cases e
  have sst : ∀ {i : Nat} {v : V}, vs[i]? = some v → (L2.start N vs)[i]? = some (some v) := fun {i v} e => by
    unfold L2.start
    have hi : i < vs.length := (List.getElem?_eq_some_iff.mp e).1
    rw [List.getElem?_append_left (by simpa using hi), List.getElem?_map, e]; rfl
  have R0 : Rl K c fr Hb (start0 N.length ms) (L2.start N vs) H := by
    refine ⟨by unfold L2.start start0; simp only [List.length_append, List.length_map, List.length_replicate]; omega, fun {i d} e => ?_, fun {i oc} e => ?_, fun {i j o1 o2 b} e1 e2 e3 e4 => ?_, p.sub, fun b o e => (frS b o e).1, fun b o e => rfl, fun P hP => ⟨(p.tab P hP).1, (p.tab P hP).2, frT P hP⟩, fun i hi => ?_, fun p hp => by rw [hxc] at hp; cases hp⟩
    · obtain ⟨v, h1, h2⟩ := pget p.args (senv e)
      exact ⟨v, sst h1, h2⟩
    · obtain ⟨v, h1, a, rfl, h2, h3⟩ := pget p.args (senv e)
      exact ⟨a, sst h1, h2, frO a (owns_mem p.args (senv e) h1), h3⟩
    · obtain ⟨v1, g1, a1, rfl, _, _⟩ := pget p.args (senv e1)
      obtain ⟨v2, g2, a2, rfl, _, _⟩ := pget p.args (senv e2)
      have z1 := sst g1
      have z2 := sst g2
      rw [e3] at z1; cases z1
      rw [e4] at z2; cases z2
      exact owns_inj p.args p.nd (senv e1) (senv e2) g1 g2
    · have hi2 := hfx i hi
      have : i < vs.length := by omega
      rw [sst (List.getElem?_eq_getElem this)]
      show _ = some (some (vs.getD i .non))
      rw [List.getD_eq_getElem?_getD, List.getElem?_eq_getElem this]; rfl
  have post : ∀ {env' : Env} {σ' : L2.St} {H' Hb' : Hp} {os : List M}, Same Hb Hb' → Rl K c fr Hb' env' σ' H' → outsOf ms 0 env' = some os → Post K c.T Hb ms vs H os Hb' H' := fun {env' σ' H' Hb' os} s R' ho => by
    have sh := outsOf_shape ho
    have ownAt : ∀ {b : Addr}, b ∈ owns ms vs → ∃ (i : Nat) (oc' : OC), env'[i]? = some (some (M.own oc')) ∧ σ'[i]? = some (some (V.ref b)) ∧ vs[i]? = some (V.ref b) := fun {b} hb => by
      obtain ⟨i, oc, h1, h2⟩ := mem_owns p.args hb
      obtain ⟨oc', h3, h4⟩ := outsOf_at ho h1
      rw [Nat.zero_add] at h4
      have hi := hmode i oc h1
      have fx := R'.fix i hi
      have fx : σ'[i]? = some (some (vs.getD i .non)) := fx
      rw [List.getD_eq_getElem?_getD, h2] at fx
      exact ⟨i, oc', h4, fx, h2⟩
    refine ⟨s, R'.sub, fun a o e h1 h2 => R'.frm a o (frN a o e h1 h2), fun a o e => ?_, ?_, sh, fun P hP => ⟨(R'.tab P hP).1, (R'.tab P hP).2.1⟩⟩
    · by_cases h1 : a ∈ owns ms vs
      · obtain ⟨i, oc', z1, z2, z3⟩ := ownAt h1
        obtain ⟨a', y1, y2, _⟩ := R'.own z1
        rw [z2] at y1; cases y1
        obtain ⟨i0, oc0, x1, x2⟩ := mem_owns p.args h1
        obtain ⟨v, w1, a2, rfl, w2, _⟩ := pget p.args x1
        rw [x2] at w1; cases w1
        rw [y2, w2]
      · by_cases h2 : a ∈ c.T
        · rw [(R'.tab a h2).2.1, (p.tab a h2).2]
        · exact R'.frb a o (frN a o e h1 h2)
    · refine paired_of (by rw [← sameShape_len sh]; exact lv.symm) fun i m v h1 h2 => ?_
      cases m with
      | val d =>
        obtain ⟨v', g1, g2⟩ := pget p.args (shape_val sh h1)
        rw [h2] at g1; cases g1
        exact Rp.mn g2 s
      | own oc =>
        obtain ⟨oc0, g1⟩ := shape_own' sh h1
        obtain ⟨oc', g2, g3⟩ := outsOf_at ho g1
        rw [h1] at g2; cases g2
        rw [Nat.zero_add] at g3
        obtain ⟨v', y1, a, rfl, _, _⟩ := pget p.args g1
        rw [h2] at y1; cases y1
        obtain ⟨a', z1, z2, _, z4⟩ := R'.own g3
        have fx : σ'[i]? = some (some (vs.getD i .non)) := R'.fix i (hmode i oc0 g1)
        rw [List.getD_eq_getElem?_getD, h2] at fx
        rw [z1] at fx
        have fx : V.ref a' = V.ref a := Option.some.inj (Option.some.inj fx)
        cases fx
        exact ⟨a, rfl, z2, z4⟩
  have fresh : ∀ {w : W} {v : V} {env' : Env} {σ' : L2.St} {H' Hb' : Hp} {os : List M}, Rl K c fr Hb' env' σ' H' → outsOf ms 0 env' = some os → (∀ i, w ≠ .cel i) → RW K fr Hb' env' σ' H' w v → RO K Hb' H H' w v := fun {w v env' σ' H' Hb' os} R' ho nc hr => by
    cases w with
    | val d => exact hr
    | cel i => exact (nc i rfl).elim
    | tmp oc =>
      obtain ⟨a, e, h1, h2, h3, h4⟩ := hr
      refine ⟨a, e, h1, ?_, h3⟩
      cases q : H a with
      | none => rfl
      | some o =>
        exfalso
        by_cases g1 : a ∈ owns ms vs
        · obtain ⟨i, oc0, z1, z2⟩ := mem_owns p.args g1
          obtain ⟨oc', z3, z4⟩ := outsOf_at ho z1
          rw [Nat.zero_add] at z4
          have fx : σ'[i]? = some (some (vs.getD i .non)) := R'.fix i (hmode i oc0 z1)
          rw [List.getD_eq_getElem?_getD, z2] at fx
          exact h4 i oc' z4 fx
        · by_cases g2 : a ∈ c.T
          · exact h3.notab (R'.tab a g2).1 rfl
          · rw [frN a o q g1 g2] at h2; cases h2
  refine hv fr Hb _ _ H (endsOf ms A' B') _ R0 (ht ms A' B' hs) ⟨fun env' σ' H' Hb' s R' q => ?_, fun w env' v σ' H' Hb' s R' rw q => ?_, fun env' σ' H' Hb' s R' q => q.elim, fun env' σ' H' Hb' s R' q => q.elim, fun C fs env' d σ' H' Hb' s R' xr q => ?_⟩
  · obtain ⟨os, ho, q⟩ := q
    exact hA _ os q _ H' Hb' (post s R' ho) (show Rp K Hb' .non .non from .non)
  · cases w with
    | val d =>
      obtain ⟨os, ho, q⟩ := q
      exact hA _ os q _ H' Hb' (post s R' ho) rw
    | tmp oc =>
      obtain ⟨os, ho, q⟩ := q
      exact hA _ os q _ H' Hb' (post s R' ho) (fresh R' ho (fun i z => by cases z) rw)
    | cel i => exact False.elim q
  · obtain ⟨os, ho, q⟩ := q
    exact hB C fs os q d H' Hb' (post s R' ho) xr
theorem vl_okC {C : Value → Prop} {x qual : Str} {st : Stmt} {f : Addr} {fd : FuncData} {N ps : List Str} {k : Nat} {c : VC} {sp : VSp} {t : VS} (F : FunC K C x qual st f fd) (S : FnScope N ps (defScope st))
    (hfx : ∀ i ∈ c.fx, i < ps.length) (hl : ∀ ms A B, sp ms A B → ms.length = ps.length ∧ ∀ i oc, ms[i]? = some (.own oc) → i ∈ c.fx)
    (hbody : ∀ (cdv : Value), C cdv → ∀ (A : Around) (outer : List PySem.Env) (s : Shared) (H : Hp) (E : XK), Room k (A.deeper (envOfC qual (defScope st) s.heap.objs.size f cdv)) →
      ∃ ts, VSs (cxOf (L2N.CX P w) P w K mg base N qual (defScope st) f cdv A outer s H E) c (fun cls d _ H => E cls d H) (defBody st) ts t)
    (ht : ∀ ms A B, sp ms A B → t (endsOf ms A B) (start0 N.length ms)) (hxc : c.xc = [] := by rfl) : FnOk P w K mg base (L2N.CX P w) (k + 1) f fd ps (spOf K c.T sp) := by
  refine F.body S (fun vs H Q E h => ?_) (fun cdv hC A outer s H vs Q E hr h => ?_)
  · obtain ⟨Hb, ms, A, B, p, hs, _⟩ := h
    rw [← p.args.length]
    exact (hl ms A B hs).1
  · obtain ⟨ts, hv⟩ := hbody cdv hC A outer s H E hr
    exact ⟨ts, hv.ps, vl_core (by have := congrArg List.length S.pre; rw [List.length_take] at this; omega) hfx hl hv.sim ht hxc h⟩
theorem vl_ok {x qual : Str} {st : Stmt} {f : Addr} {fd : FuncData} {N ps : List Str} {k : Nat} {c : VC} {sp : VSp} {t : VS} (F : Fun K x qual st f fd) (S : FnScope N ps (defScope st))
    (hfx : ∀ i ∈ c.fx, i < ps.length) (hl : ∀ ms A B, sp ms A B → ms.length = ps.length ∧ ∀ i oc, ms[i]? = some (.own oc) → i ∈ c.fx)
    (hbody : ∀ (cdv : Value) (A : Around) (outer : List PySem.Env) (s : Shared) (H : Hp) (E : XK), Room k (A.deeper (envOfC qual (defScope st) s.heap.objs.size f cdv)) →
      ∃ ts, VSs (cxOf (L2N.CX P w) P w K mg base N qual (defScope st) f cdv A outer s H E) c (fun cls d _ H => E cls d H) (defBody st) ts t)
    (ht : ∀ ms A B, sp ms A B → t (endsOf ms A B) (start0 N.length ms)) (hxc : c.xc = [] := by rfl) : FnOk P w K mg base (L2N.CX P w) (k + 1) f fd ps (spOf K c.T sp) :=
  vl_okC (FunC.of F) S hfx hl (fun cdv _ => hbody cdv) ht hxc
end
end VL
set_option Elab.async false
set_option linter.all false
set_option maxRecDepth 100000
set_option maxHeartbeats 4000000
namespace VL
open PySem PySem.Spec PyProof.Rows L2
variable [CM]
section
variable {K : PySem.W.Frag} {c : VC} {Wx : WX} {X : Cx}
def strLt (x y : Str) : Bool := decide (x.cps.toList < y.cps.toList)
@[simp] def cIS (p : Int → Int → Bool) (q : Str → Str → Bool) : G2
  | .int i, .int j, Q => Q (.val (.bl (p i j)))
  | .str i, .str j, Q => Q (.val (.bl (q i j)))
  | _, _, _ => False
def rIS (p : Int → Int → Bool) (q : Str → Str → Bool) : R2 := fun x y H Q => rI0 (fun i j => .bl (p i j)) x y H Q ∨ ∃ i j, x = .str i ∧ y = .str j ∧ Q (.bl (q i j)) H
theorem ops_IS {p : Int → Int → Bool} {q : Str → Str → Bool} : OpS K (rIS p q) (cIS p q) := by
  intro Hb H d1 d2 v1 v2 Q Q' s r1 r2 g k
  unfold cIS at g
  split at g
  · cases r1; cases r2
    exact .inl ⟨_, _, rfl, rfl, k (.val (.bl _)) _ _ _ (.refl s) (.bl _) g⟩
  · cases r1; cases r2
    exact .inr ⟨_, _, rfl, rfl, k (.val (.bl _)) _ _ _ (.refl s) (.bl _) g⟩
  · exact g.elim
theorem opr_lt : OpR X (compareOp .Lt) (rIS (fun i j => decide (i < j)) strLt) := OpR.or op_lt op_lt_str
theorem opr_le : OpR X (compareOp .LtE) (rIS (fun i j => decide (i ≤ j)) fun x y => !strLt y x) := OpR.or op_le op_le_str
theorem opr_gt : OpR X (compareOp .Gt) (rIS (fun i j => decide (j < i)) fun x y => strLt y x) := OpR.or op_gt op_gt_str
theorem opr_ge : OpR X (compareOp .GtE) (rIS (fun i j => decide (j ≤ i)) fun x y => !strLt x y) := OpR.or op_ge op_ge_str
variable {a b : Expr} {ta tb : TE} {va vb : VT} {pos : Pos}
theorem opr_eq (hu : X.A.units + 64 < cLine) : OpR X (compareOp .Eq) (rEqA X.K) := OpR.or op_eq (op_eqD hu)
theorem opr_ne (hu : X.A.units + 64 < cLine) : OpR X (compareOp .NotEq) (rNeA X.K) := OpR.or op_ne (op_neD hu)
@[simp] def dIsN (neg : Bool) : D → D → (W → Prop) → Prop
  | .non, .non, Q => Q (.val (.bl (!neg)))
  | .int _, .non, Q => Q (.val (.bl neg))
  | .bl _, .non, Q => Q (.val (.bl neg))
  | .str _, .non, Q => Q (.val (.bl neg))
  | .tup _, .non, Q => Q (.val (.bl neg))
  | .lst _, .non, Q => Q (.val (.bl neg))
  | _, _, _ => False
theorem ops_isN : OpS K (fun x y H Q => y = .non ∧ Q (.bl (decide (x = .non))) H) (dIsN false) := by
  intro Hb H d1 d2 v1 v2 Q Q' s r1 r2 g k
  unfold dIsN at g
  split at g <;> first
    | exact g.elim
    | (cases r1; cases r2; exact ⟨rfl, k (.val (.bl _)) _ _ _ (.refl s) (.bl _) (by simpa using g)⟩)
inductive TyN where
  | int | bool | str | tuple
def TyN.s : TyN → String
  | .int => "int" | .bool => "bool" | .str => "str" | .tuple => "tuple"
@[simp] def isT : TyN → D → Option Bool
  | .int, .int _ => some true
  | .int, .bl _ => some true
  | .bool, .bl _ => some true
  | .str, .str _ => some true
  | .tuple, .tup _ => some true
  | _, .obj _ _ => none
  | _, .scr _ => none
  | _, _ => some false
theorem isT_ok {H : Hp} {T : TyN} {d : D} {v : V} {b : Bool} {Hb : Hp} (s : Same Hb H) (r : RR K Hb H d v) (e : isT T d = some b) : ∃ t, TyX K H v t ∧ PySem.W.kitOne K t (.type T.s) = some b := by
  cases r with
  | non => exact ⟨_, .base .non, by cases T <;> cases e <;> exact kit_ty (by decide +kernel)⟩
  | bl x => exact ⟨_, .base (.bl x), by cases T <;> cases e <;> exact kit_ty (by decide +kernel)⟩
  | int x => exact ⟨_, .base (.int x), by cases T <;> cases e <;> exact kit_ty (by decide +kernel)⟩
  | str x => exact ⟨_, .base (.str x), by cases T <;> cases e <;> exact kit_ty (by decide +kernel)⟩
  | tup q p =>
    rcases same_seqT s q.1 with (z | ⟨o, z⟩) | ⟨o, its, n, h1, h2, _⟩
    · exact ⟨_, .base (.tup z), by cases T <;> cases e <;> exact kit_ty (by decide +kernel)⟩
    · exact ⟨_, .fTuple z, by cases T <;> cases e <;> exact kit_ty (by decide +kernel)⟩
    · exact ⟨_, .kTuple h1 h2, by cases T <;> cases e <;> exact kit_ty (by decide +kernel)⟩
  | lst q p => exact ⟨_, .base (.lst q), by cases T <;> cases e <;> exact kit_ty (by decide +kernel)⟩
  | obj _ _ => cases T <;> cases e
  | scr _ _ => cases T <;> cases e
@[simp] def vIsi (T : TyN) (t : VT) : VT := fun env Q QX => t env (fun w env1 => rd w env1 fun d => match isT T d with
  | some b => Q (.val (.bl b)) env1
  | none => False) QX
theorem ve_isi {x : Expr} {tx : TE} {vx : VT} {p p2 : Pos} {n : Str} (T : TyN) (hm : X.mg "isinstance" = none) (hmT : X.mg n = none) (hT : bootBuiltins n = some (.type T.s)) (hx : VE X c Wx x tx vx) (hg : Gl X "isinstance" := by rfl) (hgT : Gl X n := by rfl) (hn : n ≠ "__name__" := by decide) (hd : (n == ("__debug__" : Str)) = false := by decide)
    (he : starEach [x, .Name n p2] X.env = (false, eval x X.env) :: starEach [.Name n p2] X.env := by rfl) (he2 : starEach [.Name n p2] X.env = (false, eval (.Name n p2) X.env) :: starEach [] X.env := by rfl) (hpl : (backTo pos (starEach [.Name n p2] X.env)).any (·.1) = false := by rfl) :
    VE X c Wx (.Call (.Name "isinstance" p) [x, .Name n p2] [] pos) (tCB (rIsi X.K) (tCons tx (tCons (tC (.ty T.s)) tNil))) (vIsi T vx) := by
  refine ⟨pe_callB call_isi hg hm (by decide +kernel) (pa_cons hx.pe (pa_cons (pe_bltn hgT hmT hT rfl hn hd) pa_nil he2) he) (by decide) (by decide) he hpl, fun f Hb env σ H Q QX Q' R q px k => ?_⟩
  refine hx.sim f Hb env σ H _ QX _ R q px fun w1 env1 v1 H1 Hb1 s1 R1 r1 q1 => ?_
  obtain ⟨d, e, q1⟩ := rd_of q1
  split at q1
  · rename_i b hb
    obtain ⟨t, h1, h2⟩ := isT_ok R1.sub (R1.rd r1 e) hb
    exact ⟨v1, _, t, _, b, rfl, .ty _, h1, h2, k (.val (.bl b)) _ _ _ _ s1 R1 (.bl b) q1⟩
  · exact q1.elim
variable {e : Expr} {te : TE} {ve : VT} {p : Pos} {t : TA} {v : VTA}
theorem ve_len (hm : X.mg "len" = none) (ha : VA X c Wx [e] t v) (hg : Gl X "len" := by rfl) (he : starEach [e] X.env = (false, eval e X.env) :: starEach [] X.env := by rfl) (hpl : (backTo pos (starEach [] X.env)).any (·.1) = false := by rfl) : VE X c Wx (.Call (.Name "len" p) [e] [] pos) (tCB (fun xs H Q => ∃ x n, xs = [x] ∧ LenV X.K x H n ∧ Q (.int n) H) t) (vCB dLen v) := ve_callB call_len calls_len hm (by decide +kernel) ha hg (by decide) (by decide) he hpl
theorem ve_min2 (hm : X.mg "min" = none) (ha : VA X c Wx [a, b] t v) (hc : X.calm = true := by rfl) (hg : Gl X "min" := by rfl) (he : starEach [a, b] X.env = (false, eval a X.env) :: starEach [b] X.env := by rfl) (hpl : (backTo pos (starEach [b] X.env)).any (·.1) = false := by rfl) : VE X c Wx (.Call (.Name "min" p) [a, b] [] pos) (tCB (fun xs H Q => ∃ i j, xs = [.int i, .int j] ∧ Q (.int (if j < i then j else i)) H) t) (vCB dMin2 v) := ve_callB (call_min2 hc) calls_min2 hm (by decide +kernel) ha hg (by decide) (by decide) he hpl
theorem ve_intc (hm : X.mg "int" = none) (ha : VA X c Wx [e] t v) (hg : Gl X "int" := by rfl) (he : starEach [e] X.env = (false, eval e X.env) :: starEach [] X.env := by rfl) (hpl : (backTo pos (starEach [] X.env)).any (·.1) = false := by rfl) : VE X c Wx (.Call (.Name "int" p) [e] [] pos) (tCB rIntA t) (vCB dInt v) := ve_callTy (CallR.or call_int1 call_int_str) calls_int hm (by decide +kernel) ha hg (by decide) (by decide) he hpl
theorem ve_tuplec (hm : X.mg "tuple" = none) (ha : VA X c Wx [e] t v) (hg : Gl X "tuple" := by rfl) (he : starEach [e] X.env = (false, eval e X.env) :: starEach [] X.env := by rfl) (hpl : (backTo pos (starEach [] X.env)).any (·.1) = false := by rfl) : VE X c Wx (.Call (.Name "tuple" p) [e] [] pos) (tCB (fun xs H Q => ∃ p ys, xs = [.ref p] ∧ ((SqL X.K H p ys ∧ NewT H ys Q) ∨ (SqT X.K H p ys ∧ Q (.ref p) H))) t) (vCB dTuple v) := ve_callTy call_tupleN calls_tuple hm (by decide +kernel) ha hg (by decide) (by decide) he hpl
theorem ve_listc (hm : X.mg "list" = none) (ha : VA X c Wx [e] t v) (hg : Gl X "list" := by rfl) (he : starEach [e] X.env = (false, eval e X.env) :: starEach [] X.env := by rfl) (hpl : (backTo pos (starEach [] X.env)).any (·.1) = false := by rfl) : VE X c Wx (.Call (.Name "list" p) [e] [] pos) (tCB (fun xs H Q => ∃ p ys, xs = [.ref p] ∧ (SqL X.K H p ys ∨ SqT X.K H p ys) ∧ ∀ l, H l = none → Q (.ref l) (upd H l (.lst ys))) t) (vCB dList v) := ve_callTy call_list_of calls_list hm (by decide +kernel) ha hg (by decide) (by decide) he hpl
end
structure FunB (K : PySem.W.Frag) (mg : Str → Option Value) (x : Str) (st : Stmt) (ps : List Str) (f : Addr) (fd : FuncData) : Prop where
  F : Fun K x x st f fd
  g : mg x = some (.ref f)
  b : Binds K fd ps []
structure Callee (P : Program) (w : World) (K : PySem.W.Frag) (mg : Str → Option Value) (base : Heap) (T : List Addr) (x : Str) (k : Nat) (ps : List Str) (sp : VSp) (f : Addr) (fd : FuncData) : Prop where
  ok : FnOk P w K mg base (L2N.CX P w) k f fd ps (spOf K T sp)
  g : mg x = some (.ref f)
  b : Binds K fd ps []
  kp : PySem.W.keepIn K (.ref f) = true
theorem Callee.mono {P : Program} {w : World} {K : PySem.W.Frag} {mg : Str → Option Value} {base : Heap} {T : List Addr} {x : Str} {j k : Nat} {ps : List Str} {sp : VSp} {f : Addr} {fd : FuncData} (C : Callee P w K mg base T x j ps sp f fd) (h : j ≤ k) : Callee P w K mg base T x k ps sp f fd := ⟨C.ok.mono h, C.g, C.b, C.kp⟩
section
variable {K : PySem.W.Frag} {c : VC} {Wx : WX} {X : Cx}
theorem ve_fn {x : Str} {k : Nat} {ps : List Str} {sp : VSp} {fa : Addr} {fd : FuncData} {p pos : Pos} {e : Expr} {es : List Expr} {t : TA} {v : VTA} (C : Callee X.prog X.w X.K X.mg X.base c.T x k ps sp fa fd) (hr : Room k X.A) (hx : L2N.Takes X Wx)
    (ha : VA X c Wx (e :: es) t v) (hg : Gl X x := by rfl) (hdb : (x == ("__debug__" : Str)) = false := by decide) (he : starEach (e :: es) X.env = (false, eval e X.env) :: starEach es X.env := by rfl) (hpl : (backTo pos (starEach es X.env)).any (·.1) = false := by rfl) :
    VE X c Wx (.Call (.Name x p) (e :: es) [] pos) (tCallSD (spOf X.K c.T sp) [] (WE Wx) t) (vCall sp v) := ve_call C.ok hr C.g C.kp C.b (fun σ => L2N.passAt hx σ) ha hg hdb he hpl
structure GlobK (K : PySem.W.Frag) (mg : Str → Option Value) (x : Str) (d : D) (v : V) : Prop where
  at_ : ∃ u, mg x = some u ∧ RelV v u
  rp : ∀ H, Rp K H d v
theorem ve_gl {x : Str} {d : D} {v : V} {pos : Pos} (G : GlobK X.K X.mg x d v) (hg : Gl X x := by rfl) (hd : (x == ("__debug__" : Str)) = false := by decide) : VE X c Wx (.Name x pos) (tC v) (vC d) := ve_glob ⟨G.at_, G.rp⟩ hg hd
theorem GlobC.of {K : PySem.W.Frag} {mg : Str → Option Value} {x : Str} {d : D} {v : V} (h : ∃ u, mg x = some u ∧ RelV v u) (r : ∀ H, Rp K H d v) (hK : X.K = K) (hm : X.mg = mg) : GlobC X x d v := ⟨by rw [hm]; exact h, by rw [hK]; exact r⟩
end
section
variable {P : Program} {w : World} {K : PySem.W.Frag} {mg : Str → Option Value} {base : Heap}
theorem vl_fn {x : Str} {st : Stmt} {f : Addr} {fd : FuncData} {N ps : List Str} {k : Nat} {T : List Addr} {fx : List Nat} {sp : VSp} {t : VS} (F : FunB K mg x st ps f fd) (S : FnScope N ps (defScope st))
    (hfx : ∀ i ∈ fx, i < ps.length) (hl : ∀ ms A B, sp ms A B → ms.length = ps.length ∧ ∀ i oc, ms[i]? = some (.own oc) → i ∈ fx)
    (hbody : ∀ (cdv : Value) (A : Around) (outer : List PySem.Env) (s : Shared) (H : Hp) (E : XK), Room k (A.deeper (envOfC x (defScope st) s.heap.objs.size f cdv)) →
      ∃ ts, VSs (cxOf (L2N.CX P w) P w K mg base N x (defScope st) f cdv A outer s H E) ⟨T, fx, []⟩ (fun cls d _ H => E cls d H) (defBody st) ts t)
    (ht : ∀ ms A B, sp ms A B → t (endsOf ms A B) (start0 N.length ms)) : Callee P w K mg base T x (k + 1) ps sp f fd :=
  ⟨vl_ok (c := ⟨T, fx, []⟩) F.F S hfx hl hbody ht, F.g, F.b, F.F.kp⟩
end
end VL
set_option Elab.async false
set_option linter.all false
set_option maxRecDepth 100000
set_option maxHeartbeats 4000000
namespace VL
open PySem PySem.Spec PyProof.Rows L2
variable [CM]
@[simp] def modeOk : List M → Nat → List Nat → Prop
  | [], _, _ => True
  | .val _ :: ms, k, fx => modeOk ms (k + 1) fx
  | .own _ :: ms, k, fx => k ∈ fx ∧ modeOk ms (k + 1) fx
theorem modeOk_at : ∀ {ms : List M} {k : Nat} {fx : List Nat}, modeOk ms k fx → ∀ i oc, ms[i]? = some (.own oc) → k + i ∈ fx
  | [], _, _, _, i, oc, e => by simp at e
  | .val d :: ms, k, fx, h, 0, oc, e => by simp at e
  | .val d :: ms, k, fx, h, i + 1, oc, e => by
    have := modeOk_at (ms := ms) h i oc (by simpa using e)
    rw [show k + (i + 1) = k + 1 + i by omega]; exact this
  | .own d :: ms, k, fx, h, 0, oc, e => h.1
  | .own d :: ms, k, fx, h, i + 1, oc, e => by
    have := modeOk_at (ms := ms) h.2 i oc (by simpa using e)
    rw [show k + (i + 1) = k + 1 + i by omega]; exact this
theorem hl0 {ms : List M} {fx : List Nat} {n : Nat} (h1 : ms.length = n) (h : modeOk ms 0 fx) : ms.length = n ∧ ∀ i oc, ms[i]? = some (.own oc) → i ∈ fx :=
  ⟨h1, fun i oc e => by have := modeOk_at h i oc e; rwa [Nat.zero_add] at this⟩
section
variable {K : PySem.W.Frag} {c : VC} {Wx : WX} {X : Cx}
variable {e : Expr} {te : TE} {ve : VT} {p pos : Pos} {t : TA} {v : VTA}
theorem RpL.bls {Hb : Hp} : ∀ {bs : List Bool} {vs : List V}, RpL K Hb (bs.map D.bl) vs → vs = bs.map V.bl
  | [], _, h => by cases h; rfl
  | b :: bs, _, h => by
    cases h with
    | cons a r => cases a; rw [RpL.bls r]; rfl
theorem RpL.ints {Hb : Hp} : ∀ {bs : List Int} {vs : List V}, RpL K Hb (bs.map D.int) vs → vs = bs.map V.int
  | [], _, h => by cases h; rfl
  | b :: bs, _, h => by
    cases h with
    | cons a r => cases a; rw [RpL.ints r]; rfl
def dAll : GN
  | [.lst ds], Q => ∃ bs : List Bool, ds = bs.map D.bl ∧ Q (.val (.bl (bs.all id)))
  | _, _ => False
theorem calls_all : CallS K (rAll K) dAll := by
  intro Hb H ds vs Q Q' s p g k
  unfold dAll at g
  split at g
  · obtain ⟨v, rfl, r⟩ := paired1 p
    obtain ⟨bs, rfl, g⟩ := g
    cases r with
    | lst s1 p1 => cases p1.bls; exact ⟨_, bs, rfl, .of s1, k (.val (.bl _)) _ _ _ (.refl s) (.bl _) g⟩
  · exact g.elim
theorem ve_all (hm : X.mg "all" = none) (ha : VA X c Wx [e] t v) (hc : X.calm = true := by rfl) (hg : Gl X "all" := by rfl) (he : starEach [e] X.env = (false, eval e X.env) :: starEach [] X.env := by rfl) (hpl : (backTo pos (starEach [] X.env)).any (·.1) = false := by rfl) : VE X c Wx (.Call (.Name "all" p) [e] [] pos) (tCB (rAll X.K) t) (vCB dAll v) := ve_callB (cr_all hc) calls_all hm (by decide +kernel) ha hg (by decide) (by decide) he hpl
end
@[simp] theorem atI_c0 {α : Type} {a : α} {l : List α} : atI (a :: l) 0 = some a := by simp [atI, ixN]
@[simp] theorem atI_c1 {α : Type} {a b : α} {l : List α} : atI (a :: b :: l) 1 = some b := by simp [atI, ixN]; split <;> first | rfl | omega
@[simp] theorem atI_c2 {α : Type} {a b c : α} {l : List α} : atI (a :: b :: c :: l) 2 = some c := by simp [atI, ixN]; split <;> first | rfl | omega
@[simp] theorem ixN_c0 {n : Nat} : ixN (n + 1) 0 = some 0 := by simp [ixN]
@[simp] theorem ixN_c1 {n : Nat} : ixN (n + 1 + 1) 1 = some 1 := by simp [ixN]; omega
@[simp] theorem ixN_c2 {n : Nat} : ixN (n + 1 + 1 + 1) 2 = some 2 := by simp [ixN]; omega
theorem VE.re {X : Cx} {c : VC} {Wx : WX} {e : Expr} {te te' : TE} {t : VT} (h : VE X c Wx e te t) (q : te = te') : VE X c Wx e te' t := q ▸ h
theorem VTs.re {X : Cx} {c : VC} {Wx : WX} {e : List Expr} {te te' : TT} {t : VTT} (h : VTs X c Wx e te t) (q : te = te') : VTs X c Wx e te' t := q ▸ h
theorem boot_int : bootBuiltins "int" = some (.type TyN.int.s) := by decide +kernel
theorem boot_bool : bootBuiltins "bool" = some (.type TyN.bool.s) := by decide +kernel
theorem boot_str : bootBuiltins "str" = some (.type TyN.str.s) := by decide +kernel
theorem boot_tuple : bootBuiltins "tuple" = some (.type TyN.tuple.s) := by decide +kernel
theorem RpL.ofInts {K : PySem.W.Frag} {H : Hp} : ∀ ns : List Int, RpL K H (ns.map D.int) (ns.map V.int)
  | [] => .nil
  | n :: ns => .cons (.int n) (RpL.ofInts ns)
theorem cx_none {P : Program} {w : World} {outer : List PySem.Env} {H : Hp} {s : Shared} {u : Value} {s' : Shared} (h : L2N.CX P w outer H s (fun _ _ _ => False) u s') : False := by
  obtain ⟨_, _, _, _, _, _, _, _, _, _, _, _, h⟩ := h
  exact h
theorem Callee.none {P : Program} {w : World} {K : PySem.W.Frag} {mg : Str → Option Value} {base : Heap} {T : List Addr} {x : Str} {st : Stmt} {k : Nat} {ps : List Str} {f : Addr} {fd : FuncData} (F : FunB K mg x st ps f fd) : Callee P w K mg base T x k ps (fun _ _ _ => False) f fd :=
  ⟨⟨fun vs H Q E h => by obtain ⟨_, _, _, _, _, h, _⟩ := h; exact h.elim, fun A outer s H args us vs Q E _ _ _ _ h => by obtain ⟨_, _, _, _, _, h, _⟩ := h; exact h.elim⟩, F.g, F.b, F.F.kp⟩
end VL
set_option Elab.async false
set_option linter.all false
set_option maxRecDepth 100000
set_option maxHeartbeats 4000000
namespace VL
open PySem PySem.Spec PyProof.Rows L2
variable [CM]
section
variable {K : PySem.W.Frag} {c : VC} {Wx : WX} {X : Cx}
def hid (H : Hp) (a : Addr) : Hp := fun b => if b = a then none else H b
theorem hid_ne {H : Hp} {a b : Addr} (h : b ≠ a) : hid H a b = H b := if_neg h
theorem Rl.drop {f : Fm} {Hb H : Hp} {env : Env} {σ : L2.St} {a : Addr} {oc : OC} (R : Rl K c f Hb env σ H) (hb : Hb a = none) (hf : f.Fr a = none) (hc : Cont K Hb H a oc) (hn : ∀ (i : Nat) (oc' : OC), env[i]? = some (some (.own oc')) → σ[i]? ≠ some (some (.ref a))) : Rl K c f Hb env σ (hid H a) := by
  refine ⟨R.len, R.val, fun {i oc'} e => ?_, R.inj, fun b o e => ?_, fun b o e => ?_, R.frb, fun P hP => ?_, R.fix, R.xv⟩
  · obtain ⟨a', h1, h2, h3, h4⟩ := R.own e
    have ne : a' ≠ a := by rintro rfl; exact hn i oc' e h1
    exact ⟨a', h1, h2, h3, h4.mn (Same.refl _) fun o ho => by rw [hid_ne ne]; exact ho⟩
  · rw [hid_ne (ne_of_none e hb)]; exact R.sub b o e
  · rw [hid_ne (ne_of_none e hf)]; exact R.frm b o e
  · obtain ⟨h1, h2, h3⟩ := R.tab P hP
    have ne : P ≠ a := hc.notab h1
    obtain ⟨ps, g1, g2⟩ := h1
    exact ⟨⟨ps, by rw [hid_ne ne]; exact g1, g2⟩, h2, h3⟩
def handT (w : W) (k : OC → Prop) : Prop := match w with
  | .tmp oc => k oc
  | _ => False
@[simp] theorem handT_tmp {oc : OC} {k : OC → Prop} : handT (.tmp oc) k = k oc := rfl
@[simp] def vCallT (sp : VSp) (t0 : VT) (t : VTA) : VT := fun env Q QX => t0 env (fun w env1 => handT w fun oc => t env1 (fun ws env2 => argMs ws env2 fun ms => (cels ws env2).Nodup ∧ sp (.own oc :: ms) (fun w outs => Q w (wb env2 ws outs.tail)) fun C fs outs => QX C fs (wb env2 ws outs.tail)) QX) QX
theorem MR.mn {Hb H H' : Hp} {m : M} {v : V} (h : MR K Hb H m v) (s : Same H H') : MR K Hb H' m v := by
  cases m with
  | val d => exact h
  | own oc =>
    obtain ⟨a, e, h1, h2⟩ := h
    exact ⟨a, e, h1, h2.mn (Same.refl _) fun o ho => s _ _ ho⟩
theorem MRs.mn {Hb H H' : Hp} : ∀ {ms : List M} {vs : List V}, Paired (MR K Hb H) ms vs → Same H H' → Paired (MR K Hb H') ms vs
  | [], _, h, _ => by cases h; exact .nil
  | m :: ms, _, h, s => by cases h with | cons a r => exact .cons (MR.mn a s) (MRs.mn r s)
theorem owns_there {Hb H : Hp} {ms : List M} {vs : List V} {a : Addr} (h : Paired (MR K Hb H) ms vs) (ha : a ∈ owns ms vs) : ∃ o, H a = some o := by
  obtain ⟨k, oc, h1, h2⟩ := mem_owns h ha
  obtain ⟨v, g1, a', e, _, g2⟩ := pget h h1
  rw [h2] at g1; cases g1; cases e
  exact g2.there
end
end VL
set_option Elab.async false
set_option linter.all false
set_option maxRecDepth 100000
set_option maxHeartbeats 4000000
namespace VL
open PySem PySem.Spec PyProof.Rows L2
variable [CM]
section
variable {K : PySem.W.Frag} {c : VC} {Wx : WX} {X : Cx}
def hasS (j i : Str) : Bool := !(Builtin.Str.occurrences j i 0 j.length 1).isEmpty
theorem hasS_one (j : Str) (n : Nat) : hasS j ⟨#[n]⟩ = decide (n ∈ j.cps.toList) := PySem.StrLaws.found_one j n
def dInSeq (neg : Bool) (d : D) (ds : List D) (Q : W → Prop) : Prop := (∃ (x : Str) (ss : List Str), d = .str x ∧ ds = ss.map D.str ∧ Q (.val (.bl (neg ^^ ss.any fun y => y == x)))) ∨ ∃ (x : Int) (ss : List Int), d = .int x ∧ ds = ss.map D.int ∧ Q (.val (.bl (neg ^^ ss.any fun y => y == x)))
@[simp] def dIn (neg : Bool) : G2
  | .str i, .str j, Q => Q (.val (.bl (neg ^^ hasS j i)))
  | d, .tup ds, Q => dInSeq neg d ds Q
  | d, .lst ds, Q => dInSeq neg d ds Q
  | _, _, _ => False
theorem RpL.strs {Hb : Hp} : ∀ {bs : List Str} {vs : List V}, RpL K Hb (bs.map D.str) vs → vs = bs.map V.str
  | [], _, h => by cases h; rfl
  | b :: bs, _, h => by
    cases h with
    | cons a r => cases a; rw [RpL.strs r]; rfl
theorem inV_strs (x : Str) : ∀ ss : List Str, inV (.str x) (ss.map V.str) = ss.any fun y => y == x
  | [] => rfl
  | s :: ss => by
    have ih := inV_strs x ss
    unfold inV at ih ⊢
    rw [List.map_cons, List.any_cons, List.any_cons, ih]
    rfl
theorem inV_ints (x : Int) : ∀ ss : List Int, inV (.int x) (ss.map V.int) = ss.any fun y => y == x
  | [] => rfl
  | s :: ss => by
    have ih := inV_ints x ss
    unfold inV at ih ⊢
    rw [List.map_cons, List.any_cons, List.any_cons, ih]
    rfl
theorem inSeq_ok {Hb H : Hp} {neg : Bool} {d : D} {ds : List D} {p : Addr} {v : V} {vs : List V} {Q : W → Prop} {Q' : VK} (s : Same Hb H) (hd : RR K Hb H d v) (hq : SqL K H p vs ∨ SqT K H p vs) (hr : RpL K Hb ds vs) (g : dInSeq neg d ds Q)
    (k : ∀ w v H' Hb', ExtH Hb H Hb' H' → RO K Hb' H H' w v → Q w → Q' v H') : rIn K neg v (.ref p) H Q' := by
  rcases g with ⟨x, ss, rfl, rfl, g⟩ | ⟨x, ss, rfl, rfl, g⟩
  · cases hd
    cases hr.strs
    refine ⟨p, _, rfl, hq, rfl, by simp [flatV], k (.val (.bl _)) _ _ _ (.refl s) ?_ g⟩
    rw [inV_strs]
    cases neg
    · simp; exact .bl _
    · simp; exact .bl _
  · cases hd
    cases hr.ints
    refine ⟨p, _, rfl, hq, rfl, by simp [flatV], k (.val (.bl _)) _ _ _ (.refl s) ?_ g⟩
    rw [inV_ints]
    cases neg
    · simp; exact .bl _
    · simp; exact .bl _
def rInAll (K : PySem.W.Frag) : R2 := fun x y H Q => (∃ i j, x = .str i ∧ y = .str j ∧ Q (.bl (!(Builtin.Str.occurrences j i 0 j.length 1).isEmpty)) H) ∨ rIn K false x y H Q
def rNinAll (K : PySem.W.Frag) : R2 := fun x y H Q => (∃ i j, x = .str i ∧ y = .str j ∧ Q (.bl (!(!(Builtin.Str.occurrences j i 0 j.length 1).isEmpty))) H) ∨ rIn K true x y H Q
theorem ops_in : OpS K (rInAll K) (dIn false) := by
  intro Hb H d1 d2 v1 v2 Q Q' s r1 r2 g k
  unfold dIn at g
  split at g
  · cases r1; cases r2
    exact .inl ⟨_, _, rfl, rfl, k (.val (.bl _)) _ _ _ (.refl s) (.bl _) (by simpa [hasS] using g)⟩
  · cases r2 with
    | tup s1 p1 => exact .inr (inSeq_ok s r1 (.inr (same_seqT s s1.1)) p1 g k)
  · cases r2 with
    | lst s1 p1 => exact .inr (inSeq_ok s r1 (.inl (.of s1)) p1 g k)
  · exact g.elim
theorem ops_nin : OpS K (rNinAll K) (dIn true) := by
  intro Hb H d1 d2 v1 v2 Q Q' s r1 r2 g k
  unfold dIn at g
  split at g
  · cases r1; cases r2
    exact .inl ⟨_, _, rfl, rfl, k (.val (.bl _)) _ _ _ (.refl s) (.bl _) (by simpa [hasS] using g)⟩
  · cases r2 with
    | tup s1 p1 => exact .inr (inSeq_ok s r1 (.inr (same_seqT s s1.1)) p1 g k)
  · cases r2 with
    | lst s1 p1 => exact .inr (inSeq_ok s r1 (.inl (.of s1)) p1 g k)
  · exact g.elim
variable {a b : Expr} {ta tb : TE} {va vb : VT} {pos : Pos}
def dJoin (a : Str) (d : D) (Q : W → Prop) : Prop := match d with
  | .tup ds => ∃ ss : List Str, ds = ss.map D.str ∧ (ss.map (·.length)).sum + ss.length * a.length ≤ 16777216 ∧ Q (.val (.str (Txt.join a ss)))
  | .lst ds => ∃ ss : List Str, ds = ss.map D.str ∧ (ss.map (·.length)).sum + ss.length * a.length ≤ 16777216 ∧ Q (.val (.str (Txt.join a ss)))
  | _ => False
@[simp] theorem dJoin_tup {a : Str} {ds : List D} {Q : W → Prop} : dJoin a (.tup ds) Q = ∃ ss : List Str, ds = ss.map D.str ∧ (ss.map (·.length)).sum + ss.length * a.length ≤ 16777216 ∧ Q (.val (.str (Txt.join a ss))) := rfl
@[simp] theorem dJoin_lst {a : Str} {ds : List D} {Q : W → Prop} : dJoin a (.lst ds) Q = ∃ ss : List Str, ds = ss.map D.str ∧ (ss.map (·.length)).sum + ss.length * a.length ≤ 16777216 ∧ Q (.val (.str (Txt.join a ss))) := rfl
def strW (w : W) (k : Str → Prop) : Prop := match w with
  | .val (.str a) => k a
  | _ => False
@[simp] theorem strW_s {a : Str} {k : Str → Prop} : strW (.val (.str a)) k = k a := rfl
@[simp] def vJoin (ta tb : VT) : VT := fun env Q QX => ta env (fun w1 env1 => strW w1 fun a => tb env1 (fun w2 env2 => rd w2 env2 fun d2 => dJoin a d2 fun w => Q w env2) QX) QX
theorem ve_join {o e : Expr} {to te : TE} {vo ve : VT} {apos pos : Pos} (ho : VE X c Wx o to vo) (he : VE X c Wx e te ve) (hs : starEach [e] X.env = [(false, eval e X.env)] := by rfl) (hbase : attributeBase o "join" X.env (eval o X.env) = eval o X.env := by rfl) (hline : (apos.endLine == pos.line) = true := by rfl) :
    VE X c Wx (.Call (.Attribute o "join" apos) [e] [] pos) (tM1 (fun x xs H Q => ∃ a p, ∃ ys : List Str, x = .str a ∧ xs = [.ref p] ∧ (SqL X.K H p (ys.map V.str) ∨ SqT X.K H p (ys.map V.str)) ∧
      (ys.map (·.length)).sum + ys.length * a.length ≤ 16777216 ∧ Q (.str (Txt.join a ys)) H) to te) (vJoin vo ve) := by
  refine ⟨pe_join ho.pe he.pe hs hbase hline, fun f Hb env σ H Q QX Q' R q px k => ?_⟩
  refine ho.sim f Hb env σ H _ QX _ R q px fun w1 env1 v1 H1 Hb1 s1 R1 r1 q1 => ?_
  unfold strW at q1
  split at q1
  · rename_i a
    have r1 : Rp X.K Hb1 (.str a) v1 := r1
    cases r1
    refine ⟨⟨_, rfl⟩, ?_⟩
    refine he.sim f Hb1 env1 σ H1 _ QX _ R1 q1 (px.mn s1) fun w2 env2 v2 H2 Hb2 s2 R2 r2 q2 => ?_
    obtain ⟨d2, e2, q2⟩ := rd_of q2
    have rr2 := R2.rd r2 e2
    unfold dJoin at q2
    split at q2
    · obtain ⟨ss, rfl, hz, q2⟩ := q2
      cases rr2 with
      | tup g1 p1 =>
        cases p1.strs
        exact ⟨_, _, ss, rfl, rfl, .inr (same_seqT R2.sub g1.1), hz, k (.val (.str _)) _ _ _ _ (s1.trans s2) R2 (.str _) q2⟩
    · obtain ⟨ss, rfl, hz, q2⟩ := q2
      cases rr2 with
      | lst g1 p1 =>
        cases p1.strs
        exact ⟨_, _, ss, rfl, rfl, .inl (.of g1), hz, k (.val (.str _)) _ _ _ _ (s1.trans s2) R2 (.str _) q2⟩
    · exact q2.elim
  · exact q1.elim
@[simp] def dMax3 : GN
  | [.int i, .int j, .int k], Q => Q (.val (.int (if (if i < j then j else i) < k then k else (if i < j then j else i))))
  | _, _ => False
end
theorem glob_str {K : PySem.W.Frag} {mg : Str → Option Value} {x y : Str} {t : Nat} (h : mg x = some (.str y t)) : GlobK K mg x (.str y) (.str y) := ⟨⟨_, h, ⟨_, rfl⟩⟩, fun H => .str y⟩
theorem glob_int {K : PySem.W.Frag} {mg : Str → Option Value} {x : Str} {i : Int} {t : Nat} (h : mg x = some (.int i t)) : GlobK K mg x (.int i) (.int i) := ⟨⟨_, h, ⟨_, rfl⟩⟩, fun H => .int i⟩
end VL
set_option Elab.async false
set_option linter.all false
set_option maxRecDepth 100000
set_option maxHeartbeats 4000000
namespace VL
open PySem PySem.Spec PyProof.Rows L2
variable [CM]
section
variable {K : PySem.W.Frag} {c : VC} {Wx : WX} {X : Cx}
abbrev VMT := Env → VX → VX → Prop
def SimM (K : PySem.W.Frag) (c : VC) (Wx : WX) (te : L2.St → Hp → XK → Prop) (t : VMT) : Prop := ∀ (f : Fm) (Hb : Hp) (env : Env) (σ : L2.St) (H : Hp) (Q QX : VX) (Q' : XK), Rl K c f Hb env σ H → t env Q QX → PX K c f Wx Hb σ QX →
  (∀ C fs env' d H' Hb', Same Hb Hb' → Rl K c f Hb' env' σ H' → XR K C Hb' H' d fs → Q C fs env' → Q' (.ref (CM.at_ C)) d H') → te σ H Q'
structure VMk (X : Cx) (c : VC) (Wx : WX) (e : Expr) (te : L2.St → Hp → XK → Prop) (t : VMT) : Prop where
  pm : L2N.PMk X e te
  sim : SimM X.K c Wx te t
@[simp] def vRaise (t : VMT) : VS := fun DV env => t env DV.ex DV.ex
theorem vst_raise {e : Expr} {te : L2.St → Hp → XK → Prop} {t : VMT} {pos : Pos} (tk : L2N.Takes X Wx) (h : VMk X c Wx e te t) (hc : X.calm = true := by rfl) : VSt X c Wx (.Raise (some e) none pos) (fun _ σ H => te σ H fun cls d H' => Wx cls d σ H') (vRaise t) :=
  ⟨L2N.ps_raise hc tk h.pm, fun f Hb env σ H DV D R q e => h.sim f Hb env σ H DV.ex DV.ex _ R q e.px fun C fs env' d H' Hb' s R' x qx => e.ex C fs env' d σ H' Hb' s R' x qx⟩
theorem RpL.ofStrs {H : Hp} : ∀ ss : List Str, RpL K H (ss.map D.str) (ss.map V.str)
  | [] => .nil
  | s :: ss => .cons (.str s) (RpL.ofStrs ss)
theorem strW_of {w : W} {k : Str → Prop} (h : strW w k) : ∃ a, w = .val (.str a) ∧ k a := by
  unfold strW at h
  split at h
  · exact ⟨_, rfl, h⟩
  · exact h.elim
@[simp] def vSplit (ta tb : VT) : VT := fun env Q QX => ta env (fun w1 env1 => strW w1 fun a => tb env1 (fun w2 env2 => strW w2 fun b => (b.length == 0) = false ∧ a.length + 2 ≤ sizeLine ∧ Q (.tmp (.lst ((Txt.split a b).map D.str))) env2) QX) QX
theorem ve_split {o e : Expr} {to te : TE} {vo ve : VT} {apos pos : Pos} (ho : VE X c Wx o to vo) (he : VE X c Wx e te ve) (hs : starEach [e] X.env = [(false, eval e X.env)] := by rfl) (hbase : attributeBase o "split" X.env (eval o X.env) = eval o X.env := by rfl) (hline : (apos.endLine == pos.line) = true := by rfl) :
    VE X c Wx (.Call (.Attribute o "split" apos) [e] [] pos) (tM1 (fun x xs H Q => ∃ a b, x = .str a ∧ xs = [.str b] ∧ (b.length == 0) = false ∧ a.length + 2 ≤ sizeLine ∧ rNewStrs (Txt.split a b) H Q) to te) (vSplit vo ve) := by
  refine ⟨pe_split ho.pe he.pe hs hbase hline, fun f Hb env σ H Q QX Q' R q px k => ?_⟩
  refine ho.sim f Hb env σ H _ QX _ R q px fun w1 env1 v1 H1 Hb1 s1 R1 r1 q1 => ?_
  obtain ⟨a, rfl, q1⟩ := strW_of q1
  have r1 : Rp X.K Hb1 (.str a) v1 := r1
  cases r1
  refine ⟨⟨_, rfl⟩, ?_⟩
  refine he.sim f Hb1 env1 σ H1 _ QX _ R1 q1 (px.mn s1) fun w2 env2 v2 H2 Hb2 s2 R2 r2 q2 => ?_
  obtain ⟨b, rfl, h1, h2, q2⟩ := strW_of q2
  have r2 : Rp X.K Hb2 (.str b) v2 := r2
  cases r2
  refine ⟨a, b, rfl, rfl, h1, h2, fun p np => ?_⟩
  obtain ⟨R4, ro⟩ := R2.newL np (RpL.ofStrs (K := X.K) (H := Hb2) (Txt.split a b))
  exact k (.tmp (.lst _)) _ _ _ _ (s1.trans s2) R4 ro q2
def dSorted : GN
  | [.lst ds], Q => (∃ ss : List Str, ds = ss.map D.str ∧ ss.length < 64 ∧ ∀ ys : List Str, ys.Perm ss → sortedS ys = true → Q (.tmp (.lst (ys.map D.str)))) ∨
      ∃ ns : List Int, ds = ns.map D.int ∧ ns.length < 64 ∧ ∀ ys : List Int, ys.Perm ns → ys.Pairwise (· ≤ ·) → Q (.tmp (.lst (ys.map D.int)))
  | _, _ => False
theorem calls_sorted : CallS K (fun xs H Q => rSortedS K xs H Q ∨ rSorted K xs H Q) dSorted := by
  intro Hb H ds vs Q Q' s p g k
  unfold dSorted at g
  split at g
  · obtain ⟨v, rfl, r⟩ := paired1 p
    cases r with
    | lst s1 p1 =>
      rcases g with ⟨ss, rfl, hz, g⟩ | ⟨ss, rfl, hz, g⟩
      · cases p1.strs
        exact .inl ⟨_, ss, rfl, .of s1, hz, fun ys l h1 h2 nl => k (.tmp (.lst _)) _ _ _ (ExtH.newT s nl) (RO.lstN s nl (RpL.ofStrs ys)) (g ys h1 h2)⟩
      · cases p1.ints
        exact .inr ⟨_, ss, rfl, .of s1, hz, fun ys l h1 h2 nl => k (.tmp (.lst _)) _ _ _ (ExtH.newT s nl) (RO.lstN s nl (RpL.ofInts ys)) (g ys h1 h2)⟩
  · exact g.elim
theorem ve_sorted {e : Expr} {p pos : Pos} {t : TA} {v : VTA} (hm : X.mg "sorted" = none) (ha : VA X c Wx [e] t v) (hg : Gl X "sorted" := by rfl) (he : starEach [e] X.env = (false, eval e X.env) :: starEach [] X.env := by rfl) (hpl : (backTo pos (starEach [] X.env)).any (·.1) = false := by rfl) : VE X c Wx (.Call (.Name "sorted" p) [e] [] pos) (tCB (fun xs H Q => rSortedS X.K xs H Q ∨ rSorted X.K xs H Q) t) (vCB dSorted v) := ve_callB (CallR.or cr_sortedS cr_sorted) calls_sorted hm (by decide +kernel) ha hg (by decide) (by decide) he hpl
end
end VL
set_option Elab.async false
set_option linter.all false
set_option maxRecDepth 100000
set_option maxHeartbeats 4000000
namespace VL
open PySem PySem.Spec PyProof.Rows L2
variable [CM]
section
variable {K : PySem.W.Frag} {c : VC} {Wx : WX} {X : Cx}
def fldD (C : Str) (f : Str) (d : D) (Q : D → Prop) : Prop := match d with
  | .obj C' fs => C' = C ∧ ∃ d', fs.lookup f = some d' ∧ Q d'
  | _ => False
@[simp] theorem fldD_obj {C C' : Str} {f : Str} {fs : List (Str × D)} {Q : D → Prop} : fldD C f (.obj C' fs) Q = (C' = C ∧ ∃ d', fs.lookup f = some d' ∧ Q d') := rfl
@[simp] def vFld (C : Str) (f : Str) (t : VT) : VT := fun env Q QX => t env (fun w env1 => rd w env1 fun d => fldD C f d fun d' => Q (.val d') env1) QX
theorem ve_fld {e : Expr} {f : Str} {te : TE} {t : VT} {pos : Pos} {C : Str} (cC : Cls X.K (CM.at_ C)) (nA : NoAttr X.K (CM.at_ C) f) (he : VE X c Wx e te t) (hb : attributeBase e f X.env (eval e X.env) = eval e X.env := by rfl) : VE X c Wx (.Attribute e f pos) (tFld X.K te f) (vFld C f t) := by
  refine ⟨pe_fld he.pe hb, fun fr Hb env σ H Q QX Q' R q px k => ?_⟩
  refine he.sim fr Hb env σ H _ QX _ R q px fun w1 env1 v1 H1 Hb1 s1 R1 r1 q1 => ?_
  obtain ⟨d, e1, q1⟩ := rd_of q1
  have rr := R1.rd r1 e1
  unfold fldD at q1
  split at q1
  · obtain ⟨rfl, d', h1, q1⟩ := q1
    cases rr with
    | obj g1 g2 =>
      obtain ⟨v, h2, h3⟩ := g2.look h1
      exact ⟨_, _, _, _, v, rfl, g1, cC, nA, h2, k (.val d') _ _ _ _ s1 R1 h3 q1⟩
  · exact q1.elim
theorem Rl.writeO {f : Fm} {Hb H : Hp} {env : Env} {σ : L2.St} {j : Nat} {oc oc2 : OC} {o2 : HO} {a : Addr} (R : Rl K c f Hb env σ H) (hj : env[j]? = some (some (.own oc))) (hs : σ[j]? = some (some (.ref a))) (r : ∀ H', H' a = some o2 → Cont K Hb H' a oc2) : Rl K c f Hb (env.set j (some (.own oc2))) σ (upd H a o2) := by
  obtain ⟨a', h1, h2, h3, h4⟩ := R.own hj
  rw [hs] at h1; cases h1
  refine ⟨by simpa using R.len, fun {i d} e => ?_, fun {i oc} e => ?_, fun {i k o1 o2 b} e1 e2 e3 e4 => ?_, fun b o e => ?_, fun b o e => ?_, R.frb, fun P hP => ?_, R.fix, R.xv⟩
  · rcases set_get e with ⟨_, e2⟩ | ⟨ne, e2⟩
    · cases e2
    · exact R.val e2
  · rcases set_get e with ⟨ee, e2⟩ | ⟨ne, e2⟩
    · cases e2
      subst ee
      exact ⟨a, hs, h2, h3, r _ upd_same⟩
    · obtain ⟨b, g1, g2, g3, g4⟩ := R.own e2
      have nb : b ≠ a := by
        rintro rfl
        exact ne (R.inj hj e2 hs g1)
      exact ⟨b, g1, g2, g3, g4.mn (Same.refl _) fun o q => by rw [upd_ne nb]; exact q⟩
  · have own : ∀ {k : Nat} {o : OC}, (env.set j (some (.own oc2)))[k]? = some (some (.own o)) → ∃ o', env[k]? = some (some (.own o')) := fun {k o} e => by
      rcases set_get e with ⟨ee, e2⟩ | ⟨ne, e2⟩
      · subst ee; exact ⟨_, hj⟩
      · exact ⟨_, e2⟩
    obtain ⟨_, y1⟩ := own e1
    obtain ⟨_, y2⟩ := own e2
    exact R.inj y1 y2 e3 e4
  · rw [upd_ne (ne_of_none e h2)]; exact R.sub _ _ e
  · rw [upd_ne (ne_of_none e h3)]; exact R.frm _ _ e
  · obtain ⟨t1, t2, t3⟩ := R.tab P hP
    obtain ⟨ps, e, z⟩ := id t1
    exact ⟨⟨ps, by rw [upd_ne (h4.notab t1)]; exact e, z⟩, t2, t3⟩
def putD (f : Str) (d : D) : List (Str × D) → List (Str × D)
  | [] => [(f, d)]
  | (g, x) :: r => if g = f then (g, d) :: r else (g, x) :: putD f d r
theorem RpF.put {H : Hp} {f : Str} {d : D} {v : V} (h : Rp K H d v) : ∀ {fs : List (Str × D)} {gs : List (Str × V)}, RpF K H fs gs → RpF K H (putD f d fs) (putF f v gs)
  | [], _, r => by cases r; exact .cons h .nil
  | (g, x) :: r, _, q => by
    cases q with
    | cons a b =>
      unfold putD putF
      by_cases z : g = f
      · rw [if_pos z, if_pos z]; exact .cons h b
      · rw [if_neg z, if_neg z]; exact .cons a (RpF.put h b)
theorem RpF.len {H : Hp} : ∀ {fs : List (Str × D)} {gs : List (Str × V)}, RpF K H fs gs → gs.length = fs.length
  | [], _, r => by cases r; rfl
  | _ :: _, _, r => by cases r with | cons a b => simp [RpF.len b]
def stF (C : Str) (f : Str) (d : D) (w : W) (env : Env) (Q : Env → Prop) : Prop := match w with
  | .cel j => match env[j]? with
    | some (some (.own (.ins C' fs))) => C' = C ∧ fs.length < 1000 ∧ Q (env.set j (some (.own (.ins C' (putD f d fs)))))
    | _ => False
  | _ => False
@[simp] def vStFld (C : Str) (f : Str) (o t : VT) : VS := fun DV env => t env (fun w env1 => fz w env1 fun d env2 => o env2 (fun w2 env3 => stF C f d w2 env3 DV.nx) DV.ex) DV.ex
theorem vst_fld {o e : Expr} {f : Str} {to te : TE} {vo t : VT} {pos pos' : Pos} {C : Str} (cC : Cls X.K (CM.at_ C)) (nA : NoAttr X.K (CM.at_ C) f) (ho : VE X c Wx o to vo) (he : VE X c Wx e te t) (hs : swapsWith e (some (.Attribute o f pos')) pos.line X.env = pure false := by rfl) : VSt X c Wx (.Assign [.Attribute o f pos'] e pos) (sFld X.K to te f) (vStFld C f vo t) := by
  refine ⟨ps_fld ho.pe he.pe hs, fun fr Hb env σ H DV Dn R q en => ?_⟩
  refine he.sim fr Hb env σ H _ _ _ R q en.px fun w1 env1 v1 H1 Hb1 s1 R1 r1 q1 => ?_
  obtain ⟨d, env2, Hb2, s2, R2, r2, q2⟩ := R1.fz r1 q1
  refine ho.sim fr Hb2 env2 σ H1 _ _ _ R2 q2 (en.px.mn (s1.trans s2)) fun w2 env3 v2 H3 Hb3 s3 R3 r3 q3 => ?_
  unfold stF at q3
  split at q3
  · rename_i j
    have r3 : σ[j]? = some (some v2) := r3
    split at q3
    · rename_i C' fs hj
      obtain ⟨rfl, hz, q3⟩ := q3
      obtain ⟨a, h1, h2, h3, dx, gs, ha, hr⟩ := R3.own hj
      rw [r3] at h1; cases h1
      refine ⟨a, _, dx, gs, rfl, ha, cC, nA, by rw [hr.len]; exact hz, ?_⟩
      exact en.nx _ _ _ _ ((s1.trans s2).trans s3) (R3.writeO (oc2 := .ins _ (putD f d fs)) hj r3 fun H' e => ⟨dx, _, e, RpF.put (r2.mn s3) hr⟩) q3
    · exact q3.elim
  · exact q3.elim
end
end VL
set_option Elab.async false
set_option linter.all false
set_option maxRecDepth 100000
set_option maxHeartbeats 4000000
namespace VL
noncomputable section
open PySem PySem.Spec PyProof.Rows L2
variable [CM]
inductive R (σ α : Type) where
  | ok (a : α) (s : σ)
  | ex (C : Str) (fs : List (Str × D)) (s : σ)
  | no
abbrev ME := Env → R Env W
abbrev MT := Env → R Env Bool
abbrev MA := Env → R Env (List W)
abbrev MI := Env → R Env (List D)
abbrev MO := Env → R Env (Option Int)
abbrev FN := List M → R (List M) W
def R.po {α : Type} (r : R Env α) (Q : α → Env → Prop) (QX : VX) : Prop := match r with
  | .ok a s => Q a s
  | .ex C fs s => QX C fs s
  | .no => False
def vR {α : Type} (m : Env → R Env α) : Env → (α → Env → Prop) → VX → Prop := fun env Q QX => (m env).po Q QX
section
variable {σ α β γ : Type}
def bd (k : α → σ → R σ β) : R σ α → R σ β
  | .ok a s => k a s
  | .ex C fs s => .ex C fs s
  | .no => .no
@[simp] theorem bd_c1 (k : α → σ → R σ β) (a s) : bd k (.ok a s) = k a s := rfl
@[simp] theorem bd_c2 (k : α → σ → R σ β) (C fs s) : bd k (.ex C fs s) = .ex C fs s := rfl
@[simp] theorem bd_c3 (k : α → σ → R σ β) : bd k .no = .no := rfl
def mp (g : α → β) : R σ α → R σ β
  | .ok a s => .ok (g a) s
  | .ex C fs s => .ex C fs s
  | .no => .no
@[simp] theorem mp_c1 (g : α → β) (a : α) (s : σ) : mp g (.ok a s) = .ok (g a) s := rfl
@[simp] theorem mp_c2 (g : α → β) (C : Str) (fs : List (Str × D)) (s : σ) : mp g (.ex C fs s) = .ex C fs s := rfl
@[simp] theorem mp_c3 (g : α → β) : mp g (.no : R σ α) = .no := rfl
def sq (f : σ → R σ β) (g : α → β → γ) : R σ α → R σ γ
  | .ok a s => mp (g a) (f s)
  | .ex C fs s => .ex C fs s
  | .no => .no
@[simp] theorem sq_c1 (f : σ → R σ β) (g : α → β → γ) (a s) : sq f g (.ok a s) = mp (g a) (f s) := rfl
@[simp] theorem sq_c2 (f : σ → R σ β) (g : α → β → γ) (C fs s) : sq f g (.ex C fs s) = .ex C fs s := rfl
@[simp] theorem sq_c3 (f : σ → R σ β) (g : α → β → γ) : sq f g .no = .no := rfl
theorem po_bd {k : α → Env → R Env β} {r : R Env α} {Q : β → Env → Prop} {QX : VX} (h : (bd k r).po Q QX) : r.po (fun a e => (k a e).po Q QX) QX := by
  cases r <;> exact h
theorem po_mp {g : α → β} {r : R Env α} {Q : β → Env → Prop} {QX : VX} (h : (mp g r).po Q QX) : r.po (fun a e => Q (g a) e) QX := by
  cases r <;> exact h
theorem po_sq {f : Env → R Env β} {g : α → β → γ} {r : R Env α} {Q : γ → Env → Prop} {QX : VX} (h : (sq f g r).po Q QX) : r.po (fun a e => (f e).po (fun b e => Q (g a b) e) QX) QX := by
  cases r with
  | ok a e => exact po_mp h
  | ex C fs s => exact h
  | no => exact h
theorem po_mono {r : R Env α} {Q Q' : α → Env → Prop} {QX : VX} (h : r.po Q QX) (k : ∀ a e, Q a e → Q' a e) : r.po Q' QX := by
  cases r with
  | ok a s => exact k _ _ h
  | ex C fs s => exact h
  | no => exact h
end
noncomputable def cif {α : Type} (p : Prop) (a b : α) : α := @ite α p (Classical.propDecidable p) a b
theorem cif_pos {α : Type} {p : Prop} {a b : α} (h : p) : cif p a b = a := by unfold cif; exact if_pos h
theorem cif_neg {α : Type} {p : Prop} {a b : α} (h : ¬p) : cif p a b = b := by unfold cif; exact if_neg h
noncomputable def lim {α : Type} (n : Nat) (x : α) : Option α := cif (n ≤ sizeLine) (some x) none
@[simp] theorem lim_of {α : Type} {n : Nat} {x : α} (h : n ≤ 16777216) : lim n x = some x := cif_pos h
theorem lim_some {α : Type} {n : Nat} {x y : α} (h : lim n x = some y) : n ≤ sizeLine ∧ y = x := by
  unfold lim at h
  by_cases hn : n ≤ sizeLine
  · rw [cif_pos hn] at h; cases h; exact ⟨hn, rfl⟩
  · rw [cif_neg hn] at h; cases h
noncomputable def chk {α : Type} (p : Prop) (x : α) : Option α := open Classical in if p then some x else none
theorem chk_of {α : Type} {p : Prop} {x : α} (h : p) : chk p x = some x := if_pos h
theorem chk_some {α : Type} {p : Prop} {x y : α} (h : chk p x = some y) : p ∧ y = x := by
  unfold chk at h
  split at h
  · rename_i hn; cases h; exact ⟨hn, rfl⟩
  · cases h
def fzMC (i : Nat) (e : Env) : Option (Option M) → R Env D
  | some (some (.val d)) => .ok d e
  | some (some (.own oc)) => .ok oc.fz (e.set i (some (.val oc.fz)))
  | _ => .no
@[simp] theorem fzMC_c1 (i : Nat) (e : Env) (d) : fzMC i e (some (some (.val d))) = .ok d e := rfl
@[simp] theorem fzMC_c2 (i : Nat) (e : Env) (oc) : fzMC i e (some (some (.own oc))) = .ok oc.fz (e.set i (some (.val oc.fz))) := rfl
def fzM : W → Env → R Env D
  | .val d, e => .ok d e
  | .tmp oc, e => .ok oc.fz e
  | .cel i, e => fzMC i e e[i]?
@[simp] theorem fzM_c1  (d e) : fzM (.val d) e = .ok d e := rfl
@[simp] theorem fzM_c2  (oc e) : fzM (.tmp oc) e = .ok oc.fz e := rfl
@[simp] theorem fzM_c3  (i e) : fzM (.cel i) e = fzMC i e e[i]? := rfl
theorem po_fz {w : W} {e : Env} {k : D → Env → Prop} {QX : VX} (h : (fzM w e).po k QX) : fz w e k := by
  cases w with
  | val d => exact h
  | tmp oc => exact h
  | cel i =>
    simp only [fzM] at h
    rw [fz_cel]
    generalize e[i]? = o at h
    rcases o with _ | _ | d | oc <;> exact h
@[simp] def fzsM : List W → Env → R Env (List D)
  | [], e => .ok [] e
  | w :: ws, e => sq (fzsM ws) List.cons (fzM w e)
theorem po_fzs {QX : VX} : ∀ {ws : List W} {e : Env} {k : List D → Env → Prop}, (fzsM ws e).po k QX → fzs ws e k
  | [], e, k, h => h
  | w :: ws, e, k, h => po_fz (po_mono (po_sq h) fun d e1 h1 => po_fzs h1)
@[simp] def rdsM : List W → Env → Option (List D)
  | [], _ => some []
  | w :: ws, e => match view w e, rdsM ws e with
    | some d, some ds => some (d :: ds)
    | _, _ => none
theorem rds_of : ∀ {ws : List W} {e : Env} {ds : List D} {k : List D → Prop}, rdsM ws e = some ds → k ds → rds ws e k
  | [], e, ds, k, h, q => by cases h; exact q
  | w :: ws, e, ds, k, h, q => by
    unfold rdsM at h
    split at h
    · rename_i d ds' h1 h2
      cases h
      show rd w e _
      unfold rd
      rw [h1]
      exact rds_of h2 q
    · cases h
section
variable {K : PySem.W.Frag} {c : VC} {Wx : WX} {X : Cx}
abbrev FE (X : Cx) (c : VC) (Wx : WX) (e : Expr) (te : TE) (m : ME) : Prop := VE X c Wx e te (vR m)
abbrev FTe (X : Cx) (c : VC) (Wx : WX) (e : Expr) (te : TT) (m : MT) : Prop := VTe X c Wx e te (vR m)
abbrev FW (X : Cx) (c : VC) (Wx : WX) (e : Expr) (te : TT) (m : MT) : Prop := VW X c Wx e te (vR m)
abbrev FA (X : Cx) (c : VC) (Wx : WX) (es : List Expr) (te : TA) (m : MA) : Prop := VA X c Wx es te (vR m)
abbrev FO (X : Cx) (c : VC) (Wx : WX) (e : Option Expr) (te : TO) (m : MO) : Prop := VO X c Wx e te (vR m)
theorem VE.weak {e : Expr} {te : TE} {t t' : VT} (h : VE X c Wx e te t) (hw : ∀ env Q QX, t' env Q QX → t env Q QX) : VE X c Wx e te t' :=
  ⟨h.pe, fun f Hb env σ H Q QX Q' R q px k => h.sim f Hb env σ H Q QX Q' R (hw _ _ _ q) px k⟩
theorem VTe.weak {e : Expr} {te : TT} {t t' : VTT} (h : VTe X c Wx e te t) (hw : ∀ env Q QX, t' env Q QX → t env Q QX) : VTe X c Wx e te t' :=
  ⟨h.pt, fun f Hb env σ H Q QX Q' R q px k => h.sim f Hb env σ H Q QX Q' R (hw _ _ _ q) px k⟩
theorem VW.weak {e : Expr} {te : TT} {t t' : VTT} (h : VW X c Wx e te t) (hw : ∀ env Q QX, t' env Q QX → t env Q QX) : VW X c Wx e te t' :=
  ⟨h.pw, fun f Hb env σ H Q QX Q' R q px k => h.sim f Hb env σ H Q QX Q' R (hw _ _ _ q) px k⟩
theorem VA.weak {e : List Expr} {te : TA} {t t' : VTA} (h : VA X c Wx e te t) (hw : ∀ env Q QX, t' env Q QX → t env Q QX) : VA X c Wx e te t' :=
  ⟨h.pa, fun f Hb env σ H Q QX Q' R q px k => h.sim f Hb env σ H Q QX Q' R (hw _ _ _ q) px k⟩
theorem VO.weak {e : Option Expr} {te : TO} {t t' : VTO} (h : VO X c Wx e te t) (hw : ∀ env Q QX, t' env Q QX → t env Q QX) : VO X c Wx e te t' :=
  ⟨h.po, fun f Hb env σ H Q QX Q' R q px k => h.sim f Hb env σ H Q QX Q' R (hw _ _ _ q) px k⟩
theorem VIt.weak {tg e : Expr} {te : TI} {t t' : VI} (h : VIt X c Wx tg e te t) (hw : ∀ env Q QX, t' env Q QX → t env Q QX) : VIt X c Wx tg e te t' :=
  ⟨h.pi, fun f Hb env σ H Q QX Q' R q px k => h.sim f Hb env σ H Q QX Q' R (hw _ _ _ q) px k⟩
def nmC (i : Nat) (e : Env) : Option (Option M) → R Env W
  | some (some (.val d)) => .ok (.val d) e
  | some (some (.own _)) => .ok (.cel i) e
  | _ => .no
@[simp] theorem nmC_c1 (i : Nat) (e : Env) (d) : nmC i e (some (some (.val d))) = .ok (.val d) e := rfl
@[simp] theorem nmC_c2 (i : Nat) (e : Env) (x1) : nmC i e (some (some (.own x1))) = .ok (.cel i) e := rfl
@[simp] def mName (i : Nat) (e : Env) : R Env W := nmC i e e[i]?
@[simp] def mC (d : D) (e : Env) : R Env W := .ok (.val d) e
theorem fe_name (i : Nat) {x : Str} {pos : Pos} (hN : X.N[i]? = some x := by rfl) (hv : Vis X.env.scope x := by first | exact Or.inl rfl | exact Or.inr (Or.inl rfl) | exact Or.inr (Or.inr rfl)) (hd : (x == ("__debug__" : Str)) = false := by decide)
    (hcd : (x == ("__classdict__" : Str)) = false := by decide) : FE X c Wx (.Name x pos) (tVar i) (mName i) :=
  (ve_name i hN hv hd hcd).weak fun env Q QX h => by
    have h : (mName i env).po Q QX := h
    simp only [mName] at h
    simp only [vName]
    generalize env[i]? = o at h ⊢
    rcases o with _ | _ | d | oc <;> exact h
theorem fe_c {e : Expr} {te : TE} {d : D} (h : VE X c Wx e te (vC d)) : FE X c Wx e te (mC d) := h.weak fun env Q QX h => h
theorem fe_int {i : Int} {j pos} : FE X c Wx (.Constant (.int i) j pos) (tC (.int i)) (mC (.int i)) := fe_c ve_int
theorem fe_bl {b : Bool} {j pos} : FE X c Wx (.Constant (.bool b) j pos) (tC (.bl b)) (mC (.bl b)) := fe_c ve_bl
theorem fe_non {j pos} : FE X c Wx (.Constant .none j pos) (tC .non) (mC .non) := fe_c ve_non
theorem fe_str {x : Str} {j pos} : FE X c Wx (.Constant (.str x) j pos) (tC (.str x)) (mC (.str x)) := fe_c ve_str
theorem fe_gl {x : Str} {d : D} {v : V} {pos : Pos} (G : GlobK X.K X.mg x d v) (hg : Gl X x := by rfl) (hd : (x == ("__debug__" : Str)) = false := by decide) : FE X c Wx (.Name x pos) (tC v) (mC d) := fe_c (ve_gl G hg hd)
abbrev F2 := D → D → Option W
def OpF (f : F2) (g : G2) : Prop := ∀ d1 d2 w (Q : W → Prop), f d1 d2 = some w → Q w → g d1 d2 Q
def opR (e : Env) : Option W → R Env W
  | some w => .ok w e
  | none => .no
@[simp] theorem opR_c1 (e : Env) (w) : opR e (some w) = .ok w e := rfl
@[simp] theorem opR_c2 (e : Env) : opR e none = .no := rfl
def op3 (f : F2) (e : Env) : Option D → Option D → R Env W
  | some d1, some d2 => opR e (f d1 d2)
  | _, _ => .no
@[simp] theorem op3_c1 (f : F2) (e : Env) (d1 d2) : op3 f e (some d1) (some d2) = opR e (f d1 d2) := rfl
def op2 (f : F2) (w1 : W) : R Env W → R Env W
  | .ok w e => op3 f e (view (fzv w1) e) (view w e)
  | .ex C fs s => .ex C fs s
  | .no => .no
@[simp] theorem op2_c1 (f : F2) (w1 : W) (w e) : op2 f w1 (.ok w e) = op3 f e (view (fzv w1) e) (view w e) := rfl
@[simp] theorem op2_c2 (f : F2) (w1 : W) (C fs s) : op2 f w1 (.ex C fs s) = .ex C fs s := rfl
@[simp] theorem op2_c3 (f : F2) (w1 : W) : op2 f w1 .no = .no := rfl
def op1 (f : F2) (b : ME) : R Env W → R Env W
  | .ok w e => op2 f w (b e)
  | .ex C fs s => .ex C fs s
  | .no => .no
@[simp] theorem op1_c1 (f : F2) (b : ME) (w e) : op1 f b (.ok w e) = op2 f w (b e) := rfl
@[simp] theorem op1_c2 (f : F2) (b : ME) (C fs s) : op1 f b (.ex C fs s) = .ex C fs s := rfl
@[simp] theorem op1_c3 (f : F2) (b : ME) : op1 f b .no = .no := rfl
@[simp] def mOp (f : F2) (a b : ME) (e : Env) : R Env W := op1 f b (a e)
theorem po_op3 {f : F2} {g : G2} (hf : OpF f g) {e : Env} {w1 w2 : W} {Q : VQ} {QX : VX} (h : (op3 f e (view w1 e) (view w2 e)).po Q QX) : rd w1 e fun d1 => rd w2 e fun d2 => g d1 d2 fun w => Q w e := by
  unfold rd
  cases h1 : view w1 e with
  | none => rw [h1] at h; exact h
  | some d1 =>
    cases h2 : view w2 e with
    | none => rw [h1, h2] at h; exact h
    | some d2 =>
      rw [h1, h2] at h
      simp only [op3] at h
      cases h3 : f d1 d2 with
      | none => rw [h3] at h; exact h.elim
      | some w => rw [h3] at h; exact hf d1 d2 w _ h3 h
theorem po_op {f : F2} {g : G2} (hf : OpF f g) {a b : ME} {env : Env} {Q : VQ} {QX : VX} (h : vR (mOp f a b) env Q QX) : vOp g (vR a) (vR b) env Q QX := by
  have h : (op1 f b (a env)).po Q QX := h
  show (a env).po _ QX
  cases ha : a env with
  | ex C fs s => rw [ha] at h; exact h
  | no => rw [ha] at h; exact h
  | ok w1 e1 =>
    rw [ha] at h
    have h : (op2 f w1 (b e1)).po Q QX := h
    show (b e1).po _ QX
    cases hb : b e1 with
    | ex C fs s => rw [hb] at h; exact h
    | no => rw [hb] at h; exact h
    | ok w2 e2 =>
      rw [hb] at h
      exact po_op3 hf h
section
variable {a b : Expr} {ta tb : TE} {ma mb : ME} {pos : Pos}
theorem fe_opG {op : Operator} {r : R2} {g : G2} {f : F2} (ho : OpR X (binaryOp op) r) (hs : OpS X.K r g) (hf : OpF f g) (ha : FE X c Wx a ta ma) (hb : FE X c Wx b tb mb) : FE X c Wx (.BinOp a op b pos) (tOp r ta tb) (mOp f ma mb) :=
  (ve_op ho hs ha hb).weak fun _ _ _ h => po_op hf h
noncomputable def fAdd : F2
  | .int i, .int j => some (.val (.int (i + j)))
  | .str x, .str y => lim (x.length + y.length) (.val (.str (x ++ y)))
  | .tup xs, .tup ys => lim (xs.length + ys.length) (.val (.tup (xs ++ ys)))
  | .lst xs, .lst ys => lim (xs.length + ys.length) (.tmp (.lst (xs ++ ys)))
  | _, _ => none
@[simp] theorem fAdd_c1  (i j) : fAdd (.int i) (.int j) = some (.val (.int (i + j))) := rfl
@[simp] theorem fAdd_c2  (x y) : fAdd (.str x) (.str y) = lim (x.length + y.length) (.val (.str (x ++ y))) := rfl
@[simp] theorem fAdd_c3  (xs ys) : fAdd (.tup xs) (.tup ys) = lim (xs.length + ys.length) (.val (.tup (xs ++ ys))) := rfl
@[simp] theorem fAdd_c4  (xs ys) : fAdd (.lst xs) (.lst ys) = lim (xs.length + ys.length) (.tmp (.lst (xs ++ ys))) := rfl
theorem opf_add : OpF fAdd dAdd := by
  intro d1 d2 w Q h q
  unfold fAdd at h
  split at h
  · cases h; exact q
  · obtain ⟨h1, rfl⟩ := lim_some h; exact ⟨h1, q⟩
  · obtain ⟨h1, rfl⟩ := lim_some h; exact ⟨h1, q⟩
  · obtain ⟨h1, rfl⟩ := lim_some h; exact ⟨h1, q⟩
  · cases h
def fSub : F2
  | .int i, .int j => some (.val (.int (i - j)))
  | _, _ => none
@[simp] theorem fSub_c1  (i j) : fSub (.int i) (.int j) = some (.val (.int (i - j))) := rfl
theorem opf_sub : OpF fSub dSub := by
  intro d1 d2 w Q h q
  unfold fSub at h
  split at h
  · cases h; exact q
  · cases h
def MulOk (i j : Int) : Prop := CMul i j ∨ CMulW i j
noncomputable def mulI (i j : Int) : Option W := chk (MulOk i j) (.val (.int (i * j)))
noncomputable def fMul : F2
  | .int i, .int j => mulI i j
  | .lst xs, .int n => chk (-(2 ^ 63) ≤ n ∧ n < 2 ^ 63 ∧ xs.length * n.toNat ≤ sizeLine) (.tmp (.lst (List.replicate n.toNat xs).flatten))
  | _, _ => none
@[simp] theorem fMul_c1  (i j) : fMul (.int i) (.int j) = mulI i j := rfl
@[simp] theorem fMul_c2  (xs n) : fMul (.lst xs) (.int n) = chk (-(2 ^ 63) ≤ n ∧ n < 2 ^ 63 ∧ xs.length * n.toNat ≤ sizeLine) (.tmp (.lst (List.replicate n.toNat xs).flatten)) := rfl
theorem opf_mul : OpF fMul dMul := by
  intro d1 d2 w Q h q
  unfold fMul at h
  split at h
  · obtain ⟨h1, rfl⟩ := chk_some h; exact ⟨h1, q⟩
  · obtain ⟨h1, rfl⟩ := chk_some h; exact ⟨h1.1, h1.2.1, h1.2.2, q⟩
  · cases h
def DivOk (i j : Int) : Prop := CDivW i j ∨ CDivN i j
noncomputable def divI (i j : Int) : Option W := chk (DivOk i j) (.val (.int (i.fdiv j)))
noncomputable def fDiv : F2
  | .int i, .int j => divI i j
  | _, _ => none
@[simp] theorem fDiv_c1  (i j) : fDiv (.int i) (.int j) = divI i j := rfl
theorem opf_div : OpF fDiv dDiv := by
  intro d1 d2 w Q h q
  unfold fDiv at h
  split at h
  · obtain ⟨h1, rfl⟩ := chk_some h; exact ⟨h1, q⟩
  · cases h
noncomputable def modI (i j : Int) : Option W := chk (j ≠ 0) (.val (.int (i.fmod j)))
@[simp] theorem modI_of {i j : Int} (h : j ≠ 0) : modI i j = some (.val (.int (i.fmod j))) := chk_of h
noncomputable def fMod : F2
  | .int i, .int j => modI i j
  | _, _ => none
@[simp] theorem fMod_c1  (i j) : fMod (.int i) (.int j) = modI i j := rfl
theorem opf_mod : OpF fMod dMod := by
  intro d1 d2 w Q h q
  unfold fMod at h
  split at h
  · obtain ⟨h1, rfl⟩ := chk_some h; exact ⟨h1, q⟩
  · cases h
noncomputable def powI (i j : Int) : Option W := chk (CPow i j) (.val (.int (i ^ j.toNat)))
@[simp] theorem powI_s {i j : Int} (h : 0 ≤ j ∧ j ≤ 1000000 ∧ i.natAbs < 18446744073709551616) : powI i j = some (.val (.int (i ^ j.toNat))) := chk_of h
noncomputable def fPow : F2
  | .int i, .int j => powI i j
  | _, _ => none
@[simp] theorem fPow_c1  (i j) : fPow (.int i) (.int j) = powI i j := rfl
theorem opf_pow : OpF fPow dPow := by
  intro d1 d2 w Q h q
  unfold fPow at h
  split at h
  · obtain ⟨h1, rfl⟩ := chk_some h; exact ⟨h1, q⟩
  · cases h
theorem fe_add (ha : FE X c Wx a ta ma) (hb : FE X c Wx b tb mb) : FE X c Wx (.BinOp a .Add b pos) (tOp (rAdd X.K) ta tb) (mOp fAdd ma mb) := fe_opG opr_add ops_add opf_add ha hb
theorem fe_sub (ha : FE X c Wx a ta ma) (hb : FE X c Wx b tb mb) : FE X c Wx (.BinOp a .Sub b pos) (tOp (rI0 fun i j => .int (i - j)) ta tb) (mOp fSub ma mb) := fe_opG op_sub ops_sub opf_sub ha hb
theorem fe_mul (ha : FE X c Wx a ta ma) (hb : FE X c Wx b tb mb) : FE X c Wx (.BinOp a .Mult b pos) (tOp rMulA ta tb) (mOp fMul ma mb) := fe_opG opr_mul ops_mul opf_mul ha hb
theorem fe_div (ha : FE X c Wx a ta ma) (hb : FE X c Wx b tb mb) : FE X c Wx (.BinOp a .FloorDiv b pos) (tOp (fun x y H Q => rI CDivW (fun i j => .int (i / j)) x y H Q ∨ rI CDivN (fun i j => .int (i.fdiv j)) x y H Q) ta tb) (mOp fDiv ma mb) := fe_opG opr_div ops_div opf_div ha hb
theorem fe_mod (ha : FE X c Wx a ta ma) (hb : FE X c Wx b tb mb) : FE X c Wx (.BinOp a .Mod b pos) (tOp (rI (fun _ j => j ≠ 0) fun i j => .int (i.fmod j)) ta tb) (mOp fMod ma mb) := fe_opG op_modN ops_mod opf_mod ha hb
theorem fe_pow (ha : FE X c Wx a ta ma) (hb : FE X c Wx b tb mb) : FE X c Wx (.BinOp a .Pow b pos) (tOp (rI CPow fun i j => .int (i ^ j.toNat)) ta tb) (mOp fPow ma mb) := fe_opG op_pow ops_pow opf_pow ha hb
def ng2 (e : Env) : Option D → R Env W
  | some (.int i) => .ok (.val (.int (-i))) e
  | _ => .no
@[simp] theorem ng2_c1 (e : Env) (i) : ng2 e (some (.int i)) = .ok (.val (.int (-i))) e := rfl
def ngK : R Env W → R Env W
  | .ok w e => ng2 e (view w e)
  | .ex C fs s => .ex C fs s
  | .no => .no
@[simp] theorem ngK_c1  (w e) : ngK (.ok w e) = ng2 e (view w e) := rfl
@[simp] theorem ngK_c2  (C fs s) : ngK (.ex C fs s) = .ex C fs s := rfl
@[simp] theorem ngK_c3  : ngK .no = .no := rfl
@[simp] def mNeg (a : ME) (e : Env) : R Env W := ngK (a e)
theorem fe_neg (ha : FE X c Wx a ta ma) : FE X c Wx (.UnaryOp .USub a pos) (tUn (rU fun i => .int (-i)) ta) (mNeg ma) := (ve_neg ha).weak fun env Q QX h => by
  have h : (ngK (ma env)).po Q QX := h
  show (ma env).po _ QX
  cases hA : ma env with
  | ex C fs s => rw [hA] at h; exact h
  | no => rw [hA] at h; exact h
  | ok w1 e1 =>
    rw [hA] at h
    have h : (ng2 e1 (view w1 e1)).po Q QX := h
    show rd w1 e1 _
    unfold rd
    cases h1 : view w1 e1 with
    | none => rw [h1] at h; exact h
    | some d =>
      rw [h1] at h
      cases d <;> exact h
theorem fe_cmpG {op : CmpOp} {r : R2} {g : G2} {f : F2} (ho : OpR X (compareOp op) r) (hs : OpS X.K r g) (hm : behindInMarks op b = false) (hf : OpF f g) (ha : FE X c Wx a ta ma) (hb : FE X c Wx b tb mb) : FE X c Wx (.Compare a [op] [b] pos) (tOp r ta tb) (mOp f ma mb) :=
  (ve_cmp ho hs hm ha hb).weak fun _ _ _ h => po_op hf h
def tst : R Env W → R Env Bool
  | .ok (.val (.bl b)) e => .ok b e
  | .ex C fs s => .ex C fs s
  | _ => .no
@[simp] theorem tst_c1  (b e) : tst (.ok (.val (.bl b)) e) = .ok b e := rfl
@[simp] theorem tst_c2  (C fs s) : tst (.ex C fs s) = .ex C fs s := rfl
@[simp] def mTst (m : ME) (e : Env) : R Env Bool := tst (m e)
theorem po_tst {m : ME} {env : Env} {Q : Bool → Env → Prop} {QX : VX} (h : vR (mTst m) env Q QX) : vTest (vR m) env Q QX := by
  have h : (tst (m env)).po Q QX := h
  show (m env).po _ QX
  cases hA : m env with
  | ex C fs s => rw [hA] at h; exact h
  | no => rw [hA] at h; exact h
  | ok w1 e1 =>
    rw [hA] at h
    cases w1 with
    | val d => cases d <;> exact h
    | cel i => exact h
    | tmp oc => exact h
theorem ft_cmpG {op : CmpOp} {r : R2} {g : G2} {f : F2} (ho : OpR X (compareOp op) r) (hs : OpS X.K r g) (hm : behindInMarks op b = false) (hf : OpF f g) (ha : FE X c Wx a ta ma) (hb : FE X c Wx b tb mb) : FTe X c Wx (.Compare a [op] [b] pos) (tTest (tOp r ta tb)) (mTst (mOp f ma mb)) :=
  (vt_cmp ho hs hm ha hb).weak fun _ _ _ h => by
    have h := po_tst h
    exact po_op hf h
theorem ft_val {e : Expr} {te : TE} {m : ME} (h : FE X c Wx e te m) (he : ∀ whole, isTrue e X.env whole = (do let v ← whole; standAt e.pos; holding [v] (truthy v)) := by intro _; rfl) : FTe X c Wx e (tB te) (mTst m) :=
  (vt_val h he).weak fun _ _ _ h => po_tst h
def fIS (p : Int → Int → Bool) (q : Str → Str → Bool) : F2
  | .int i, .int j => some (.val (.bl (p i j)))
  | .str i, .str j => some (.val (.bl (q i j)))
  | _, _ => none
@[simp] theorem fIS_c1 (p : Int → Int → Bool) (q : Str → Str → Bool) (i j) : fIS p q (.int i) (.int j) = some (.val (.bl (p i j))) := rfl
@[simp] theorem fIS_c2 (p : Int → Int → Bool) (q : Str → Str → Bool) (i j) : fIS p q (.str i) (.str j) = some (.val (.bl (q i j))) := rfl
theorem opf_IS {p : Int → Int → Bool} {q : Str → Str → Bool} : OpF (fIS p q) (cIS p q) := by
  intro d1 d2 w Q h q
  unfold fIS at h
  split at h
  · cases h; exact q
  · cases h; exact q
  · cases h
def fLt : F2 := fIS (fun i j => decide (i < j)) strLt
@[simp] theorem fLt_int (i j : Int) : fLt (.int i) (.int j) = some (.val (.bl (decide (i < j)))) := rfl
@[simp] theorem fLt_str (x y : Str) : fLt (.str x) (.str y) = some (.val (.bl (strLt x y))) := rfl
def fLe : F2 := fIS (fun i j => decide (i ≤ j)) fun x y => !strLt y x
@[simp] theorem fLe_int (i j : Int) : fLe (.int i) (.int j) = some (.val (.bl (decide (i ≤ j)))) := rfl
@[simp] theorem fLe_str (x y : Str) : fLe (.str x) (.str y) = some (.val (.bl (!strLt y x))) := rfl
def fGt : F2 := fIS (fun i j => decide (j < i)) fun x y => strLt y x
@[simp] theorem fGt_int (i j : Int) : fGt (.int i) (.int j) = some (.val (.bl (decide (j < i)))) := rfl
@[simp] theorem fGt_str (x y : Str) : fGt (.str x) (.str y) = some (.val (.bl (strLt y x))) := rfl
def fGe : F2 := fIS (fun i j => decide (j ≤ i)) fun x y => !strLt x y
@[simp] theorem fGe_int (i j : Int) : fGe (.int i) (.int j) = some (.val (.bl (decide (j ≤ i)))) := rfl
@[simp] theorem fGe_str (x y : Str) : fGe (.str x) (.str y) = some (.val (.bl (!strLt x y))) := rfl
theorem fe_le (ha : FE X c Wx a ta ma) (hb : FE X c Wx b tb mb) : FE X c Wx (.Compare a [.LtE] [b] pos) (tOp (rIS (fun i j => decide (i ≤ j)) fun x y => !strLt y x) ta tb) (mOp fLe ma mb) := fe_cmpG opr_le ops_IS (nomark _) opf_IS ha hb
theorem ft_lt (ha : FE X c Wx a ta ma) (hb : FE X c Wx b tb mb) : FTe X c Wx (.Compare a [.Lt] [b] pos) (tTest (tOp (rIS (fun i j => decide (i < j)) strLt) ta tb)) (mTst (mOp fLt ma mb)) := ft_cmpG opr_lt ops_IS (nomark _) opf_IS ha hb
theorem ft_le (ha : FE X c Wx a ta ma) (hb : FE X c Wx b tb mb) : FTe X c Wx (.Compare a [.LtE] [b] pos) (tTest (tOp (rIS (fun i j => decide (i ≤ j)) fun x y => !strLt y x) ta tb)) (mTst (mOp fLe ma mb)) := ft_cmpG opr_le ops_IS (nomark _) opf_IS ha hb
theorem ft_gt (ha : FE X c Wx a ta ma) (hb : FE X c Wx b tb mb) : FTe X c Wx (.Compare a [.Gt] [b] pos) (tTest (tOp (rIS (fun i j => decide (j < i)) fun x y => strLt y x) ta tb)) (mTst (mOp fGt ma mb)) := ft_cmpG opr_gt ops_IS (nomark _) opf_IS ha hb
theorem ft_ge (ha : FE X c Wx a ta ma) (hb : FE X c Wx b tb mb) : FTe X c Wx (.Compare a [.GtE] [b] pos) (tTest (tOp (rIS (fun i j => decide (j ≤ i)) fun x y => !strLt x y) ta tb)) (mTst (mOp fGe ma mb)) := ft_cmpG opr_ge ops_IS (nomark _) opf_IS ha hb
end
end
noncomputable def eqG (a b : D) : Option Bool := match toPy a, toPy b with
  | some x, some y => cif (SeqAt.shaped x = true ∧ SeqAt.shaped y = true) (some (PyData.eqv x y)) none
  | _, _ => none
noncomputable def eqD : D → D → Option Bool
  | .int i, .int j => some (decide (i = j))
  | .str i, .str j => some (decide (i = j))
  | .bl i, .bl j => some (decide (i = j))
  | .non, .non => some true
  | .int _, .non => some false
  | .non, .int _ => some false
  | .str _, .non => some false
  | .non, .str _ => some false
  | .int _, .str _ => some false
  | .str _, .int _ => some false
  | a, b => eqG a b
@[simp] theorem eqD_c1  (i j) : eqD (.int i) (.int j) = some (decide (i = j)) := rfl
@[simp] theorem eqD_c2  (i j) : eqD (.str i) (.str j) = some (decide (i = j)) := rfl
@[simp] theorem eqD_c3  (i j) : eqD (.bl i) (.bl j) = some (decide (i = j)) := rfl
@[simp] theorem eqD_c4  : eqD .non .non = some true := rfl
@[simp] theorem eqD_c5  (x1) : eqD (.int x1) .non = some false := rfl
@[simp] theorem eqD_c6  (x1) : eqD .non (.int x1) = some false := rfl
@[simp] theorem eqD_c7  (x1) : eqD (.str x1) .non = some false := rfl
@[simp] theorem eqD_c8  (x1) : eqD .non (.str x1) = some false := rfl
@[simp] theorem eqD_c9  (x1 x2) : eqD (.int x1) (.str x2) = some false := rfl
@[simp] theorem eqD_c10  (x1 x2) : eqD (.str x1) (.int x2) = some false := rfl
@[simp] theorem eqD_tt (a b : List D) : eqD (.tup a) (.tup b) = eqG (.tup a) (.tup b) := rfl
@[simp] theorem eqD_ll (a b : List D) : eqD (.lst a) (.lst b) = eqG (.lst a) (.lst b) := rfl
@[simp] theorem eqD_tn (a : List D) : eqD (.tup a) .non = eqG (.tup a) .non := rfl
@[simp] theorem eqD_nt (a : List D) : eqD .non (.tup a) = eqG .non (.tup a) := rfl
def eqW (neg : Bool) : Option Bool → Option W
  | some b => some (.val (.bl (if neg then !b else b)))
  | none => none
@[simp] theorem eqW_c1 (neg : Bool) (b) : eqW neg (some b) = some (.val (.bl (if neg then !b else b))) := rfl
@[simp] theorem eqW_c2 (neg : Bool) : eqW neg none = none := rfl
@[simp] noncomputable def fEq (neg : Bool) (a b : D) : Option W := eqW neg (eqD a b)
section
theorem opf_eq {neg : Bool} : OpF (fEq neg) (dEq neg) := by
  intro d1 d2 w Q h q
  have gen : eqW neg (eqG d1 d2) = some w → dEqG neg d1 d2 Q := fun h => by
    unfold eqG at h
    unfold dEqG
    cases h1 : toPy d1 with
    | none => rw [h1] at h; cases h
    | some x =>
      cases h2 : toPy d2 with
      | none => rw [h1, h2] at h; cases h
      | some y =>
        rw [h1, h2] at h
        dsimp only at h
        by_cases hs : SeqAt.shaped x = true ∧ SeqAt.shaped y = true
        · rw [cif_pos hs] at h
          cases h
          exact ⟨hs.1, hs.2, q⟩
        · rw [cif_neg hs] at h; cases h
  unfold fEq at h
  cases d1 <;> cases d2 <;> first
    | exact gen h
    | (have h := Option.some.inj h; subst h; cases neg <;> simpa [dEq] using q)
end
end
end VL
set_option Elab.async false
set_option linter.all false
set_option maxRecDepth 100000
set_option maxHeartbeats 4000000
namespace VL
noncomputable section
open PySem PySem.Spec PyProof.Rows L2
variable [CM]
section
variable {X : Cx} {K : PySem.W.Frag}
def rInDT (neg : Bool) (K : PySem.W.Frag) : R2 := fun x y H Q => ∃ d c ds, Dp K H x d ∧ Dp K H y c ∧ (c = .list ds ∨ c = .tuple ds) ∧ SeqAt.shaped d = true ∧ SeqAt.shaped c = true ∧ Q (.bl (neg ^^ ds.any fun z => PyData.eqv z d)) H
theorem canLays_l {ds : List PyData} (h : SeqAt.shaped (.list ds) = true) : PyData.canLayAll0 ds = true := by
  have := SeqAt.canLay_of_shaped h
  simpa [PyData.canLay0] using this
theorem canLays_t {ds : List PyData} (h : SeqAt.shaped (.tuple ds) = true) : PyData.canLayAll0 ds = true := by
  have := SeqAt.canLay_of_shaped h
  simpa [PyData.canLay0] using this
theorem op_inDT (hu : X.A.units + 65 < cLine) : OpR X (compareOp .In) (rInDT false X.K) := by
  intro pins s σ H x y v u Q I rx ry h
  obtain ⟨d, c, ds, hd, he, hc, sd, se, q⟩ := h
  obtain ⟨as, r1⟩ := Dp.reads I d x v hd rx
  obtain ⟨bs, r2⟩ := Dp.reads I c y u he ry
  rw [Bool.false_xor] at q
  rcases hc with rfl | rfl
  · exact SeqAt.in_list_reads r2 r1 (canLays_l se) (SeqAt.canLay_of_shaped sd) (room_in_shaped sd hu) ⟨.bl _, H, I, rfl, q⟩
  · exact SeqAt.in_tuple_reads r2 r1 (canLays_t se) (SeqAt.canLay_of_shaped sd) (room_in_shaped sd hu) ⟨.bl _, H, I, rfl, q⟩
theorem op_ninDT (hu : X.A.units + 65 < cLine) : OpR X (compareOp .NotIn) (rInDT true X.K) := by
  intro pins s σ H x y v u Q I rx ry h
  obtain ⟨d, c, ds, hd, he, hc, sd, se, q⟩ := h
  obtain ⟨as, r1⟩ := Dp.reads I d x v hd rx
  obtain ⟨bs, r2⟩ := Dp.reads I c y u he ry
  rw [Bool.true_xor] at q
  rcases hc with rfl | rfl
  · exact SeqAt.notIn_list_reads r2 r1 (canLays_l se) (SeqAt.canLay_of_shaped sd) (room_in_shaped sd hu) ⟨.bl _, H, I, rfl, q⟩
  · exact SeqAt.notIn_tuple_reads r2 r1 (canLays_t se) (SeqAt.canLay_of_shaped sd) (room_in_shaped sd hu) ⟨.bl _, H, I, rfl, q⟩
def dInG (neg : Bool) : G2 := fun d1 d2 Q => ∃ p c ds, toPy d1 = some p ∧ toPy d2 = some c ∧ (c = .list ds ∨ c = .tuple ds) ∧ SeqAt.shaped p = true ∧ SeqAt.shaped c = true ∧ Q (.val (.bl (neg ^^ ds.any fun z => PyData.eqv z p)))
theorem ops_inG {neg : Bool} : OpS K (rInDT neg K) (dInG neg) := by
  intro Hb H d1 d2 v1 v2 Q Q' s r1 r2 g k
  obtain ⟨p, c, ds, h1, h2, h3, h4, h5, q⟩ := g
  exact ⟨p, c, ds, Rp.dp _ _ _ (r1.up s) h1, Rp.dp _ _ _ (r2.up s) h2, h3, h4, h5, k (.val (.bl _)) _ _ _ (.refl s) (.bl _) q⟩
theorem OpS.or {r r' : R2} {g g' : G2} (h : OpS K r g) (h' : OpS K r' g') : OpS K (fun x y H Q => r x y H Q ∨ r' x y H Q) (fun a b Q => g a b Q ∨ g' a b Q) :=
  fun Hb H d1 d2 v1 v2 Q Q' s r1 r2 q k => q.elim (fun q => .inl (h Hb H d1 d2 v1 v2 Q Q' s r1 r2 q k)) fun q => .inr (h' Hb H d1 d2 v1 v2 Q Q' s r1 r2 q k)
def rTixD (K : PySem.W.Frag) : V → List V → Hp → VK → Prop := fun x xs H Q => ∃ (a : Addr) (y : V) (d : PyData) (ds : List PyData) (j : Nat) (z : PyData), x = V.ref a ∧ xs = [y] ∧ Dp K H (V.ref a) (.tuple ds) ∧ Dp K H y d ∧
  SeqAt.shaped (.tuple ds) = true ∧ SeqAt.shaped d = true ∧ ds[j]? = some z ∧ PyData.eqv z d = true ∧ (∀ (m : Nat) (z' : PyData), m < j → ds[m]? = some z' → PyData.eqv z' d = false) ∧ Q (.int (j : Nat)) H
theorem mt_tixD (hu : X.A.units + 65 < cLine) : MtR X "tuple.index" (rTixD X.K) := by
  intro pins s σ H x xs v us Q I rx rxs h
  obtain ⟨a, y, d, ds, j, z, rfl, rfl, hl, hy, sl, sd, hz, hzj, hno, q⟩ := h
  cases rx
  cases rxs with
  | cons ry rt =>
    rename_i uy ut
    cases rt
    obtain ⟨bs, r1⟩ := Dp.reads I d y uy hy ry
    have hxs : PyData.canLayAll0 ds = true := canLays_t sl
    have hroom : X.A.units + 1 + min (PyData.depthAll ds) d.depth < cLine := room_in_shaped sd hu
    cases hl with
    | tup hs ha =>
      obtain ⟨its, rv, pl, hz2⟩ := I.tuple hs
      obtain ⟨⟨cls, dd, dt, sls⟩, ho, hc, n, hdt⟩ := pl
      simp only at hc hdt
      subst hc
      subst hdt
      obtain ⟨as, h4⟩ := Dp.readsAll I ds _ its ha rv
      have hn : its.length = ds.length := SeqAt.ReadsAll.length ds its as h4
      have hmap : its.map (SeqAt.readOf s.heap) = ds := SeqAt.readsAll_map ds its as hxs h4
      obtain ⟨hjd, _⟩ := List.getElem?_eq_some_iff.mp hz
      have hjl : j < its.length := by omega
      have hj : j < its.toArray.size := by simpa using hjl
      have at_ : ∀ (m : Nat) (hm : m < its.toArray.size) (z' : PyData), ds[m]? = some z' → SeqAt.readOf s.heap its.toArray[m] = z' := by
        intro m hm z' hz'
        have hml : m < its.length := by simpa using hm
        rw [← hmap, List.getElem?_map, List.getElem?_eq_getElem hml] at hz'
        have e1 : SeqAt.readOf s.heap its[m] = z' := Option.some.inj (show some (SeqAt.readOf s.heap its[m]) = some z' from hz')
        simpa using e1
      refine call_meets PySem.F.slot_tuple_index ⟨_, ho, rfl⟩ PySem.F.entry_tuple_index (PySem.F.args_tuple_index_2 _ _)
        (TI.tuple_indexAt a its.toArray n dd sls uy (fun u => PyData.eqv (SeqAt.readOf s.heap u) d) j hj ?_ ?_) ⟨ho, SeqAt.items_eqAt (vs := its.toArray) (show ReadsAll s.heap its.toArray.toList ds as from h4) r1 hxs (SeqAt.canLay_of_shaped sd) hroom, ?_⟩
      · show PyData.eqv (SeqAt.readOf s.heap its.toArray[j]) d = true
        rw [at_ j hj z hz]
        exact hzj
      · intro m hm hmj
        have hmd : m < ds.length := by omega
        have hz' : ds[m]? = some ds[m] := List.getElem?_eq_getElem hmd
        show PyData.eqv (SeqAt.readOf s.heap its.toArray[m]) d = false
        rw [at_ m hm _ hz']
        exact hno m _ hmj hz'
      · exact ⟨.int (j : Nat), H, I.tok _, ⟨_, rfl⟩, q⟩
theorem MtR.or {id : String} {r r' : V → List V → Hp → VK → Prop} (h : MtR X id r) (h' : MtR X id r') : MtR X id (fun x xs H Q => r x xs H Q ∨ r' x xs H Q) :=
  fun pins s σ H x xs v us Q I rx rxs q => q.elim (h pins s σ H x xs v us Q I rx rxs) (h' pins s σ H x xs v us Q I rx rxs)
end
theorem ru65 {k : Nat} {A : Around} (r : L2.Room k A) : A.units + 65 < cLine := by have := r.un; omega
def inG (d : D) (ds : List D) : Option Bool := match toPys ds, toPy d with
  | some ps, some p => cif (SeqAt.shaped (.list ps) = true ∧ SeqAt.shaped p = true) (some (ps.any fun z => PyData.eqv z p)) none
  | _, _ => none
def idxG (d : D) (ds : List D) : Option W := match toPys ds, toPy d with
  | some ps, some p => cif (SeqAt.shaped (.list ps) = true ∧ SeqAt.shaped p = true) ((ps.findIdx? fun z => PyData.eqv z p).map fun j => .val (.int (j : Nat))) none
  | _, _ => none
theorem shaped_lt {ps : List PyData} : SeqAt.shaped (.tuple ps) = SeqAt.shaped (.list ps) := by
  unfold SeqAt.shaped
  have h1 : (PyData.tuple ps).canLay0 = (PyData.list ps).canLay0 := by simp only [PyData.canLay0]
  have h2 : (PyData.tuple ps).depth = (PyData.list ps).depth := by simp only [PyData.depth]
  rw [h1, h2]
theorem inG_some {d : D} {ds : List D} {b : Bool} (h : inG d ds = some b) : ∃ ps p, toPys ds = some ps ∧ toPy d = some p ∧ SeqAt.shaped (.list ps) = true ∧ SeqAt.shaped p = true ∧ b = ps.any fun z => PyData.eqv z p := by
  unfold inG at h
  split at h
  · rename_i ps p h1 h2
    by_cases hs : SeqAt.shaped (.list ps) = true ∧ SeqAt.shaped p = true
    · rw [cif_pos hs] at h; cases h; exact ⟨ps, p, h1, h2, hs.1, hs.2, rfl⟩
    · rw [cif_neg hs] at h; cases h
  · cases h
theorem idxG_some {d : D} {ds : List D} {w : W} (h : idxG d ds = some w) : ∃ ps p j z, toPys ds = some ps ∧ toPy d = some p ∧ SeqAt.shaped (.list ps) = true ∧ SeqAt.shaped p = true ∧ ps[j]? = some z ∧ PyData.eqv z p = true ∧ (∀ (m : Nat) (z' : PyData), m < j → ps[m]? = some z' → PyData.eqv z' p = false) ∧ w = .val (.int (j : Nat)) := by
  unfold idxG at h
  split at h
  · rename_i ps p h1 h2
    by_cases hs : SeqAt.shaped (.list ps) = true ∧ SeqAt.shaped p = true
    · rw [cif_pos hs] at h
      cases h3 : ps.findIdx? fun z => PyData.eqv z p with
      | none => rw [h3] at h; cases h
      | some j =>
        rw [h3] at h
        cases h
        obtain ⟨hj, e1, e2⟩ := List.findIdx?_eq_some_iff_getElem.mp h3
        refine ⟨ps, p, j, ps[j], h1, h2, hs.1, hs.2, List.getElem?_eq_getElem hj, e1, fun m z' hm hz => ?_, rfl⟩
        have hml : m < ps.length := by omega
        rw [List.getElem?_eq_getElem hml] at hz
        cases hz
        simpa using e2 m hm
    · rw [cif_neg hs] at h; cases h
  · cases h
end
end VL
set_option Elab.async false
set_option linter.all false
set_option maxRecDepth 100000
set_option maxHeartbeats 4000000
namespace VL
noncomputable section
open PySem PySem.Spec PyProof.Rows L2
variable [CM]
section
variable {K : PySem.W.Frag} {c : VC} {Wx : WX} {X : Cx}
section
variable {a b : Expr} {ta tb : TE} {ma mb : ME} {pos : Pos}
theorem fe_eq (hu : X.A.units + 64 < cLine) (ha : FE X c Wx a ta ma) (hb : FE X c Wx b tb mb) : FE X c Wx (.Compare a [.Eq] [b] pos) (tOp (rEqA X.K) ta tb) (mOp (fEq false) ma mb) := fe_cmpG (opr_eq hu) ops_eq (nomark _) opf_eq ha hb
theorem ft_eq (hu : X.A.units + 64 < cLine) (ha : FE X c Wx a ta ma) (hb : FE X c Wx b tb mb) : FTe X c Wx (.Compare a [.Eq] [b] pos) (tTest (tOp (rEqA X.K) ta tb)) (mTst (mOp (fEq false) ma mb)) := ft_cmpG (opr_eq hu) ops_eq (nomark _) opf_eq ha hb
theorem ft_ne (hu : X.A.units + 64 < cLine) (ha : FE X c Wx a ta ma) (hb : FE X c Wx b tb mb) : FTe X c Wx (.Compare a [.NotEq] [b] pos) (tTest (tOp (rNeA X.K) ta tb)) (mTst (mOp (fEq true) ma mb)) := ft_cmpG (opr_ne hu) ops_ne (nomark _) opf_eq ha hb
def fIsN (neg : Bool) : F2
  | .non, .non => some (.val (.bl (!neg)))
  | .int _, .non => some (.val (.bl neg))
  | .bl _, .non => some (.val (.bl neg))
  | .str _, .non => some (.val (.bl neg))
  | .tup _, .non => some (.val (.bl neg))
  | .lst _, .non => some (.val (.bl neg))
  | _, _ => none
@[simp] theorem fIsN_c1 (neg : Bool) : fIsN neg .non .non = some (.val (.bl (!neg))) := rfl
@[simp] theorem fIsN_c2 (neg : Bool) (x1) : fIsN neg (.int x1) .non = some (.val (.bl neg)) := rfl
@[simp] theorem fIsN_c3 (neg : Bool) (x1) : fIsN neg (.bl x1) .non = some (.val (.bl neg)) := rfl
@[simp] theorem fIsN_c4 (neg : Bool) (x1) : fIsN neg (.str x1) .non = some (.val (.bl neg)) := rfl
@[simp] theorem fIsN_c5 (neg : Bool) (x1) : fIsN neg (.tup x1) .non = some (.val (.bl neg)) := rfl
@[simp] theorem fIsN_c6 (neg : Bool) (x1) : fIsN neg (.lst x1) .non = some (.val (.bl neg)) := rfl
theorem opf_isN {neg : Bool} : OpF (fIsN neg) (dIsN neg) := by
  intro d1 d2 w Q h q
  unfold fIsN at h
  split at h <;> first
    | (cases h; exact q)
    | cases h
theorem fe_isN (ha : FE X c Wx a ta ma) (hb : FE X c Wx b tb mb) : FE X c Wx (.Compare a [.Is] [b] pos) (tOp (fun x y H Q => y = .non ∧ Q (.bl (decide (x = .non))) H) ta tb) (mOp (fIsN false) ma mb) := fe_cmpG op_isN ops_isN (nomark _) opf_isN ha hb
@[simp] def strsOf : List D → Option (List Str)
  | [] => some []
  | .str x :: ds => (strsOf ds).map (x :: ·)
  | _ :: _ => none
@[simp] def intsOf : List D → Option (List Int)
  | [] => some []
  | .int x :: ds => (intsOf ds).map (x :: ·)
  | _ :: _ => none
@[simp] def blsOf : List D → Option (List Bool)
  | [] => some []
  | .bl x :: ds => (blsOf ds).map (x :: ·)
  | _ :: _ => none
@[simp] theorem strsOf_map : ∀ ss : List Str, strsOf (ss.map D.str) = some ss
  | [] => rfl
  | s :: ss => by simp [strsOf_map ss]
@[simp] theorem intsOf_map : ∀ ss : List Int, intsOf (ss.map D.int) = some ss
  | [] => rfl
  | s :: ss => by simp [intsOf_map ss]
@[simp] theorem blsOf_map : ∀ ss : List Bool, blsOf (ss.map D.bl) = some ss
  | [] => rfl
  | s :: ss => by simp [blsOf_map ss]
theorem strsOf_some : ∀ {ds : List D} {ss : List Str}, strsOf ds = some ss → ds = ss.map D.str
  | [], _, h => by cases h; rfl
  | .str x :: ds, _, h => by
    cases h1 : strsOf ds with
    | none => simp [h1] at h
    | some r => simp [h1] at h; subst h; rw [strsOf_some h1]; rfl
  | .non :: _, _, h => by simp at h
  | .bl _ :: _, _, h => by simp at h
  | .int _ :: _, _, h => by simp at h
  | .tup _ :: _, _, h => by simp at h
  | .lst _ :: _, _, h => by simp at h
  | .obj _ _ :: _, _, h => by simp at h
  | .scr _ :: _, _, h => by simp at h
theorem intsOf_some : ∀ {ds : List D} {ss : List Int}, intsOf ds = some ss → ds = ss.map D.int
  | [], _, h => by cases h; rfl
  | .int x :: ds, _, h => by
    cases h1 : intsOf ds with
    | none => simp [h1] at h
    | some r => simp [h1] at h; subst h; rw [intsOf_some h1]; rfl
  | .non :: _, _, h => by simp at h
  | .bl _ :: _, _, h => by simp at h
  | .str _ :: _, _, h => by simp at h
  | .tup _ :: _, _, h => by simp at h
  | .lst _ :: _, _, h => by simp at h
  | .obj _ _ :: _, _, h => by simp at h
  | .scr _ :: _, _, h => by simp at h
theorem blsOf_some : ∀ {ds : List D} {ss : List Bool}, blsOf ds = some ss → ds = ss.map D.bl
  | [], _, h => by cases h; rfl
  | .bl x :: ds, _, h => by
    cases h1 : blsOf ds with
    | none => simp [h1] at h
    | some r => simp [h1] at h; subst h; rw [blsOf_some h1]; rfl
  | .non :: _, _, h => by simp at h
  | .int _ :: _, _, h => by simp at h
  | .str _ :: _, _, h => by simp at h
  | .tup _ :: _, _, h => by simp at h
  | .lst _ :: _, _, h => by simp at h
  | .obj _ _ :: _, _, h => by simp at h
  | .scr _ :: _, _, h => by simp at h
def inSeq : D → List D → Option Bool
  | .str x, ds => (strsOf ds).map fun ss => ss.any fun y => y == x
  | .int x, ds => (intsOf ds).map fun ss => ss.any fun y => y == x
  | .tup x, ds => inG (.tup x) ds
  | .lst x, ds => inG (.lst x) ds
  | _, _ => none
@[simp] theorem inSeq_c1  (x ds) : inSeq (.str x) ds = (strsOf ds).map fun ss => ss.any fun y => y == x := rfl
@[simp] theorem inSeq_c2  (x ds) : inSeq (.int x) ds = (intsOf ds).map fun ss => ss.any fun y => y == x := rfl
@[simp] theorem inSeq_c3  (x ds) : inSeq (.tup x) ds = inG (.tup x) ds := rfl
@[simp] theorem inSeq_c4  (x ds) : inSeq (.lst x) ds = inG (.lst x) ds := rfl
def inD : D → D → Option Bool
  | .str i, .str j => some (hasS j i)
  | d, .tup ds => inSeq d ds
  | d, .lst ds => inSeq d ds
  | _, _ => none
@[simp] theorem inD_c1  (i j) : inD (.str i) (.str j) = some (hasS j i) := rfl
@[simp] theorem inD_c2  (d ds) : inD d (.tup ds) = inSeq d ds := by cases d <;> rfl
@[simp] theorem inD_c3  (d ds) : inD d (.lst ds) = inSeq d ds := by cases d <;> rfl
@[simp] def fIn (neg : Bool) (a b : D) : Option W := eqW neg (inD a b)
theorem inSeq_of {neg : Bool} {d : D} {ds : List D} {w : W} {Q : W → Prop} (h : eqW neg (inSeq d ds) = some w) (q : Q w) : dInSeq neg d ds Q ∨ ∀ c ps, toPys ds = some ps → (c = .list ps ∨ c = .tuple ps) → ∃ p, toPy d = some p ∧ SeqAt.shaped p = true ∧ SeqAt.shaped c = true ∧ Q (.val (.bl (neg ^^ ps.any fun z => PyData.eqv z p))) := by
  have gen : ∀ d', d' = d → eqW neg (inG d' ds) = some w → ∀ c ps, toPys ds = some ps → (c = .list ps ∨ c = .tuple ps) → ∃ p, toPy d = some p ∧ SeqAt.shaped p = true ∧ SeqAt.shaped c = true ∧ Q (.val (.bl (neg ^^ ps.any fun z => PyData.eqv z p))) := by
    intro d' e hh c ps hp hc
    subst e
    cases h1 : inG d' ds with
    | none => rw [h1] at hh; cases hh
    | some b =>
      rw [h1] at hh
      obtain ⟨ps', p, h2, h3, h4, h5, rfl⟩ := inG_some h1
      rw [hp] at h2; cases h2
      cases hh
      refine ⟨p, h3, h5, ?_, by cases neg <;> simpa using q⟩
      rcases hc with rfl | rfl
      · exact h4
      · rw [shaped_lt]; exact h4
  cases d with
  | str x =>
    cases h1 : strsOf ds with
    | none => simp [h1] at h
    | some ss => simp [h1] at h; subst h; exact .inl (.inl ⟨x, ss, rfl, strsOf_some h1, by cases neg <;> simpa using q⟩)
  | int x =>
    cases h1 : intsOf ds with
    | none => simp [h1] at h
    | some ss => simp [h1] at h; subst h; exact .inl (.inr ⟨x, ss, rfl, intsOf_some h1, by cases neg <;> simpa using q⟩)
  | tup x => exact .inr (gen _ rfl h)
  | lst x => exact .inr (gen _ rfl h)
  | _ => exact nomatch h
theorem inSeq_py {neg : Bool} {d : D} {ds : List D} {w : W} {Q : W → Prop} (h : eqW neg (inSeq d ds) = some w) (q : Q w) : dInSeq neg d ds Q ∨ ∃ ps, toPys ds = some ps := by
  cases d with
  | str x =>
    cases h1 : strsOf ds with
    | none => simp [h1] at h
    | some ss => simp [h1] at h; subst h; exact .inl (.inl ⟨x, ss, rfl, strsOf_some h1, by cases neg <;> simpa using q⟩)
  | int x =>
    cases h1 : intsOf ds with
    | none => simp [h1] at h
    | some ss => simp [h1] at h; subst h; exact .inl (.inr ⟨x, ss, rfl, intsOf_some h1, by cases neg <;> simpa using q⟩)
  | tup x =>
    cases h1 : inG (.tup x) ds with
    | none => simp [h1] at h
    | some b => obtain ⟨ps, _, h2, _⟩ := inG_some h1; exact .inr ⟨ps, h2⟩
  | lst x =>
    cases h1 : inG (.lst x) ds with
    | none => simp [h1] at h
    | some b => obtain ⟨ps, _, h2, _⟩ := inG_some h1; exact .inr ⟨ps, h2⟩
  | _ => exact nomatch h
def dInX (neg : Bool) : G2 := fun a b Q => dIn neg a b Q ∨ dInG neg a b Q
theorem opf_in {neg : Bool} : OpF (fIn neg) (dInX neg) := by
  intro d1 d2 w Q h q
  cases d2 with
  | tup ds =>
    have h : eqW neg (inSeq d1 ds) = some w := by cases d1 <;> simpa [fIn] using h
    rcases inSeq_py h q with g | ⟨ps, hp⟩
    · exact .inl (by cases d1 <;> exact g)
    · rcases inSeq_of h q with g | g
      · exact .inl (by cases d1 <;> exact g)
      · obtain ⟨p, h1, h2, h3, h4⟩ := g (.tuple ps) ps hp (.inr rfl)
        exact .inr ⟨p, .tuple ps, ps, h1, by unfold toPy; rw [hp]; rfl, .inr rfl, h2, h3, h4⟩
  | lst ds =>
    have h : eqW neg (inSeq d1 ds) = some w := by cases d1 <;> simpa [fIn] using h
    rcases inSeq_py h q with g | ⟨ps, hp⟩
    · exact .inl (by cases d1 <;> exact g)
    · rcases inSeq_of h q with g | g
      · exact .inl (by cases d1 <;> exact g)
      · obtain ⟨p, h1, h2, h3, h4⟩ := g (.list ps) ps hp (.inl rfl)
        exact .inr ⟨p, .list ps, ps, h1, by unfold toPy; rw [hp]; rfl, .inl rfl, h2, h3, h4⟩
  | str j =>
    cases d1 with
    | str i =>
      have h := Option.some.inj h
      subst h
      exact .inl (by cases neg <;> simpa using q)
    | _ => exact nomatch h
  | _ => cases d1 <;> exact nomatch h
def rInX (K : PySem.W.Frag) : R2 := fun x y H Q => rInAll K x y H Q ∨ rInDT false K x y H Q
def rNinX (K : PySem.W.Frag) : R2 := fun x y H Q => rNinAll K x y H Q ∨ rInDT true K x y H Q
theorem opr_inX (hu : X.A.units + 65 < cLine) : OpR X (compareOp .In) (rInX X.K) := OpR.or (OpR.or op_in_str op_in_seq) (op_inDT hu)
theorem opr_ninX (hu : X.A.units + 65 < cLine) : OpR X (compareOp .NotIn) (rNinX X.K) := OpR.or (OpR.or L2.op_notin_str op_notIn_seq) (op_ninDT hu)
theorem ops_inX : OpS K (rInX K) (dInX false) := OpS.or ops_in ops_inG
theorem ops_ninX : OpS K (rNinX K) (dInX true) := OpS.or ops_nin ops_inG
theorem fe_in (hu : X.A.units + 65 < cLine) (ha : FE X c Wx a ta ma) (hb : FE X c Wx b tb mb) (hm : behindInMarks .In b = false := by rfl) : FE X c Wx (.Compare a [.In] [b] pos) (tOp (rInX X.K) ta tb) (mOp (fIn false) ma mb) := fe_cmpG (opr_inX hu) ops_inX hm opf_in ha hb
theorem ft_in (hu : X.A.units + 65 < cLine) (ha : FE X c Wx a ta ma) (hb : FE X c Wx b tb mb) (hm : behindInMarks .In b = false := by rfl) : FTe X c Wx (.Compare a [.In] [b] pos) (tTest (tOp (rInX X.K) ta tb)) (mTst (mOp (fIn false) ma mb)) := ft_cmpG (opr_inX hu) ops_inX hm opf_in ha hb
theorem ft_nin (hu : X.A.units + 65 < cLine) (ha : FE X c Wx a ta ma) (hb : FE X c Wx b tb mb) (hm : behindInMarks .NotIn b = false := by rfl) : FTe X c Wx (.Compare a [.NotIn] [b] pos) (tTest (tOp (rNinX X.K) ta tb)) (mTst (mOp (fIn true) ma mb)) := ft_cmpG (opr_ninX hu) ops_ninX hm opf_in ha hb
end
def andK (b : MT) : R Env Bool → R Env Bool
  | .ok true e => b e
  | .ok false e => .ok false e
  | .ex C fs s => .ex C fs s
  | .no => .no
@[simp] theorem andK_c1 (b : MT) (e) : andK b (.ok true e) = b e := rfl
@[simp] theorem andK_c2 (b : MT) (e) : andK b (.ok false e) = .ok false e := rfl
@[simp] theorem andK_c3 (b : MT) (C fs s) : andK b (.ex C fs s) = .ex C fs s := rfl
@[simp] theorem andK_c4 (b : MT) : andK b .no = .no := rfl
def orK (b : MT) : R Env Bool → R Env Bool
  | .ok true e => .ok true e
  | .ok false e => b e
  | .ex C fs s => .ex C fs s
  | .no => .no
@[simp] theorem orK_c1 (b : MT) (e) : orK b (.ok true e) = .ok true e := rfl
@[simp] theorem orK_c2 (b : MT) (e) : orK b (.ok false e) = b e := rfl
@[simp] theorem orK_c3 (b : MT) (C fs s) : orK b (.ex C fs s) = .ex C fs s := rfl
@[simp] theorem orK_c4 (b : MT) : orK b .no = .no := rfl
@[simp] def mAndT (a b : MT) (e : Env) : R Env Bool := andK b (a e)
@[simp] def mOrT (a b : MT) (e : Env) : R Env Bool := orK b (a e)
@[simp] def mNotT (a : MT) (e : Env) : R Env Bool := mp (fun b => !b) (a e)
section
variable {a b : Expr} {rest : List Expr} {ta tb : TT} {ma mb : MT} {pos : Pos}
theorem fw_and1 (h : FTe X c Wx a ta ma) : FW X c Wx (.BoolOp .And [a] pos) ta ma := vw_and1 h
theorem fw_or1 (h : FTe X c Wx a ta ma) : FW X c Wx (.BoolOp .Or [a] pos) ta ma := vw_or1 h
theorem fw_and (ha : FTe X c Wx a ta ma) (hb : FW X c Wx (.BoolOp .And (b :: rest) pos) tb mb) : FW X c Wx (.BoolOp .And (a :: b :: rest) pos) (tAnd ta tb) (mAndT ma mb) :=
  (vw_and ha hb).weak fun env Q QX h => by
    have h : (andK mb (ma env)).po Q QX := h
    show (ma env).po _ QX
    cases hA : ma env with
    | ex C fs s => rw [hA] at h; exact h
    | no => rw [hA] at h; exact h
    | ok k e1 =>
      rw [hA] at h
      cases k with
      | true => exact h
      | false => exact h
theorem fw_or (ha : FTe X c Wx a ta ma) (hb : FW X c Wx (.BoolOp .Or (b :: rest) pos) tb mb) : FW X c Wx (.BoolOp .Or (a :: b :: rest) pos) (tOr ta tb) (mOrT ma mb) :=
  (vw_or ha hb).weak fun env Q QX h => by
    have h : (orK mb (ma env)).po Q QX := h
    show (ma env).po _ QX
    cases hA : ma env with
    | ex C fs s => rw [hA] at h; exact h
    | no => rw [hA] at h; exact h
    | ok k e1 =>
      rw [hA] at h
      cases k with
      | true => exact h
      | false => exact h
theorem FW.ft {e : Expr} (h : FW X c Wx e ta ma) : FTe X c Wx e ta ma := VW.vt h
theorem ft_not (h : FTe X c Wx a ta ma) : FTe X c Wx (.UnaryOp .Not a pos) (tNot ta) (mNotT ma) := (vt_not h).weak fun env Q QX h => po_mp h
end
section
variable {t a b : Expr} {rest : List Expr} {tt : TT} {ta tb : TE} {mt : MT} {ma mb : ME} {pos : Pos}
def andV (b : ME) : R Env W → R Env W
  | .ok (.val (.bl true)) e => b e
  | .ok (.val (.bl false)) e => .ok (.val (.bl false)) e
  | .ex C fs s => .ex C fs s
  | _ => .no
@[simp] theorem andV_c1 (b : ME) (e) : andV b (.ok (.val (.bl true)) e) = b e := rfl
@[simp] theorem andV_c2 (b : ME) (e) : andV b (.ok (.val (.bl false)) e) = .ok (.val (.bl false)) e := rfl
@[simp] theorem andV_c3 (b : ME) (C fs s) : andV b (.ex C fs s) = .ex C fs s := rfl
def orV (b : ME) : R Env W → R Env W
  | .ok (.val (.bl true)) e => .ok (.val (.bl true)) e
  | .ok (.val (.bl false)) e => b e
  | .ex C fs s => .ex C fs s
  | _ => .no
@[simp] theorem orV_c1 (b : ME) (e) : orV b (.ok (.val (.bl true)) e) = .ok (.val (.bl true)) e := rfl
@[simp] theorem orV_c2 (b : ME) (e) : orV b (.ok (.val (.bl false)) e) = b e := rfl
@[simp] theorem orV_c3 (b : ME) (C fs s) : orV b (.ex C fs s) = .ex C fs s := rfl
def notV : R Env W → R Env W
  | .ok (.val (.bl b)) e => .ok (.val (.bl (!b))) e
  | .ex C fs s => .ex C fs s
  | _ => .no
@[simp] theorem notV_c1  (b e) : notV (.ok (.val (.bl b)) e) = .ok (.val (.bl (!b))) e := rfl
@[simp] theorem notV_c2  (C fs s) : notV (.ex C fs s) = .ex C fs s := rfl
@[simp] def mAndV (a b : ME) (e : Env) : R Env W := andV b (a e)
@[simp] def mOrV (a b : ME) (e : Env) : R Env W := orV b (a e)
@[simp] def mNotV (a : ME) (e : Env) : R Env W := notV (a e)
theorem fe_one {op : BoolOp} (h : FE X c Wx a ta ma) : FE X c Wx (.BoolOp op [a] pos) ta ma := ve_one h
theorem fe_andB (ha : FE X c Wx a ta ma) (hb' : FE X c Wx (.BoolOp .And (b :: rest) pos) tb mb) : FE X c Wx (.BoolOp .And (a :: b :: rest) pos) (tAndV ta tb) (mAndV ma mb) :=
  (ve_and ha hb').weak fun env Q QX h => by
    have h : (andV mb (ma env)).po Q QX := h
    show (ma env).po _ QX
    cases hA : ma env with
    | ex C fs s => rw [hA] at h; exact h
    | no => rw [hA] at h; exact h
    | ok w e1 =>
      rw [hA] at h
      cases w with
      | val d =>
        cases d with
        | bl k => cases k <;> exact h
        | _ => exact h.elim
      | cel i => exact h.elim
      | tmp oc => exact h.elim
theorem fe_not (ha : FE X c Wx a ta ma) : FE X c Wx (.UnaryOp .Not a pos) (tNotV ta) (mNotV ma) := (ve_not ha).weak fun env Q QX h => by
    have h : (notV (ma env)).po Q QX := h
    show (ma env).po _ QX
    cases hA : ma env with
    | ex C fs s => rw [hA] at h; exact h
    | no => rw [hA] at h; exact h
    | ok w e1 =>
      rw [hA] at h
      cases w with
      | val d =>
        cases d with
        | bl k => exact h
        | _ => exact h.elim
      | cel i => exact h.elim
      | tmp oc => exact h.elim
def ifK {α : Type} (a b : Env → R Env α) : R Env Bool → R Env α
  | .ok true e => a e
  | .ok false e => b e
  | .ex C fs s => .ex C fs s
  | .no => .no
@[simp] theorem ifK_c1 {α : Type} (a b : Env → R Env α) (e) : ifK a b (.ok true e) = a e := rfl
@[simp] theorem ifK_c2 {α : Type} (a b : Env → R Env α) (e) : ifK a b (.ok false e) = b e := rfl
@[simp] theorem ifK_c3 {α : Type} (a b : Env → R Env α) (C fs s) : ifK a b (.ex C fs s) = .ex C fs s := rfl
@[simp] theorem ifK_c4 {α : Type} (a b : Env → R Env α) : ifK a b .no = .no := rfl
@[simp] def mIf (t : MT) (a b : ME) (e : Env) : R Env W := ifK a b (t e)
theorem fe_if (ht : FTe X c Wx t tt mt) (ha : FE X c Wx a ta ma) (hb : FE X c Wx b tb mb) : FE X c Wx (.IfExp t a b pos) (tIf tt ta tb) (mIf mt ma mb) :=
  (ve_if ht ha hb).weak fun env Q QX h => by
    have h : (ifK ma mb (mt env)).po Q QX := h
    show (mt env).po _ QX
    cases hA : mt env with
    | ex C fs s => rw [hA] at h; exact h
    | no => rw [hA] at h; exact h
    | ok k e1 =>
      rw [hA] at h
      cases k <;> exact h
end
@[simp] def mNil (e : Env) : R Env (List W) := .ok [] e
@[simp] def mCons (m : ME) (r : MA) (e : Env) : R Env (List W) := sq r (fun w ws => fzv w :: ws) (m e)
theorem fa_nil : FA X c Wx [] tNil mNil := va_nil.weak fun env Q QX h => h
theorem fa_cons {e : Expr} {es : List Expr} {te : TE} {t : TA} {m : ME} {r : MA} (h : FE X c Wx e te m) (hr : FA X c Wx es t r) (hs : starEach (e :: es) X.env = (false, eval e X.env) :: starEach es X.env := by rfl) : FA X c Wx (e :: es) (tCons te t) (mCons m r) :=
  (va_cons h hr hs).weak fun env Q QX h => po_sq h
noncomputable def dispK (f : List D → W) : R Env (List D) → R Env W
  | .ok ds e => opR e (lim ds.length (f ds))
  | .ex C fs s => .ex C fs s
  | .no => .no
@[simp] theorem dispK_c1 (f : List D → W) (ds e) : dispK f (.ok ds e) = opR e (lim ds.length (f ds)) := rfl
@[simp] theorem dispK_c2 (f : List D → W) (C fs s) : dispK f (.ex C fs s) = .ex C fs s := rfl
@[simp] theorem dispK_c3 (f : List D → W) : dispK f .no = .no := rfl
@[simp] noncomputable def mTup (t : MA) (e : Env) : R Env W := dispK (fun ds => .val (.tup ds)) (bd fzsM (t e))
@[simp] noncomputable def mLst (t : MA) (e : Env) : R Env W := dispK (fun ds => .tmp (.lst ds)) (bd fzsM (t e))
theorem po_disp {f : List D → W} {r : R Env (List D)} {Q : VQ} {QX : VX} (h : (dispK f r).po Q QX) : r.po (fun ds e => ds.length ≤ sizeLine ∧ Q (f ds) e) QX := by
  cases r with
  | ex C fs s => exact h
  | no => exact h
  | ok ds e =>
    simp only [dispK] at h
    cases h1 : lim ds.length (f ds) with
    | none => rw [h1] at h; exact h.elim
    | some w =>
      rw [h1] at h
      obtain ⟨h2, rfl⟩ := lim_some h1
      exact ⟨h2, h⟩
theorem fe_tup {es : List Expr} {t : TA} {v : MA} {x1 : Nat} {pos : Pos} (h : FA X c Wx es t v) : FE X c Wx (.Tuple es x1 pos) (tTupN t) (mTup v) :=
  (ve_tup h).weak fun env Q QX h => po_mono (po_bd (po_disp h)) fun ws e1 h1 => po_fzs h1
theorem fe_lst {es : List Expr} {t : TA} {v : MA} {pos : Pos} (h : FA X c Wx es t v) : FE X c Wx (.List es pos) (tLst t) (mLst v) :=
  (ve_lst h).weak fun env Q QX h => po_mono (po_bd (po_disp h)) fun ws e1 h1 => po_fzs h1
noncomputable def fIx : F2
  | .lst ds, .int i => (atI ds i).map .val
  | .tup ds, .int i => (atI ds i).map .val
  | .scr ds, .int i => (atI ds i).map .val
  | .str z, .int i => cif (z.length ≤ sizeLine) ((atI z.cps.toList i).map fun n => .val (.str ⟨#[n]⟩)) none
  | _, _ => none
@[simp] theorem fIx_c1  (ds i) : fIx (.lst ds) (.int i) = (atI ds i).map .val := rfl
@[simp] theorem fIx_c2  (ds i) : fIx (.tup ds) (.int i) = (atI ds i).map .val := rfl
@[simp] theorem fIx_c3  (ds i) : fIx (.scr ds) (.int i) = (atI ds i).map .val := rfl
@[simp] theorem fIx_str {z : Str} {i : Int} (h : z.length ≤ 16777216) : fIx (.str z) (.int i) = (atI z.cps.toList i).map fun n => .val (.str ⟨#[n]⟩) := cif_pos h
theorem opf_ix : OpF fIx dIx := by
  intro d1 d2 w Q h q
  unfold fIx at h
  split at h
  · rename_i ds i
    cases h1 : atI ds i with
    | none => rw [h1] at h; cases h
    | some d => rw [h1] at h; cases h; exact ⟨d, h1, q⟩
  · rename_i ds i
    cases h1 : atI ds i with
    | none => rw [h1] at h; cases h
    | some d => rw [h1] at h; cases h; exact ⟨d, h1, q⟩
  · rename_i ds i
    cases h1 : atI ds i with
    | none => rw [h1] at h; cases h
    | some d => rw [h1] at h; cases h; exact ⟨d, h1, q⟩
  · rename_i z i
    by_cases hz : z.length ≤ sizeLine
    · rw [cif_pos hz] at h
      cases h1 : atI z.cps.toList i with
      | none => rw [h1] at h; cases h
      | some d => rw [h1] at h; cases h; exact ⟨hz, d, h1, q⟩
    · rw [cif_neg hz] at h; cases h
  · cases h
theorem fe_ix {a b : Expr} {ta tb : TE} {ma mb : ME} {pos : Pos} (ha : FE X c Wx a ta ma) (hb : FE X c Wx b tb mb) (hs : PlainIx b := by intro _ _; rfl) : FE X c Wx (.Subscript a b pos) (tOp (rIx X.K) ta tb) (mOp fIx ma mb) :=
  (ve_ix ha hb hs).weak fun _ _ _ h => po_op opf_ix h
@[simp] def mNoPart (e : Env) : R Env (Option Int) := .ok none e
def partK : R Env W → R Env (Option Int)
  | .ok (.val (.int i)) e => .ok (some i) e
  | .ex C fs s => .ex C fs s
  | _ => .no
@[simp] theorem partK_c1  (i e) : partK (.ok (.val (.int i)) e) = .ok (some i) e := rfl
@[simp] theorem partK_c2  (C fs s) : partK (.ex C fs s) = .ex C fs s := rfl
@[simp] def mPart (m : ME) (e : Env) : R Env (Option Int) := partK (m e)
theorem fo_none : FO X c Wx none tNoPart mNoPart := vo_none.weak fun env Q QX h => h
theorem fo_some {e : Expr} {te : TE} {m : ME} (h : FE X c Wx e te m) : FO X c Wx (some e) (tPart te) (mPart m) := (vo_some h).weak fun env Q QX h => by
  have h : (partK (m env)).po Q QX := h
  show (m env).po _ QX
  cases hA : m env with
  | ex C fs s => rw [hA] at h; exact h
  | no => rw [hA] at h; exact h
  | ok w e1 =>
    rw [hA] at h
    cases w with
    | val d => cases d <;> exact h
    | cel i => exact h
    | tmp oc => exact h
noncomputable def slD : D → Option Int → Option Int → Option W
  | .lst ds, lo, hi => some (.tmp (.lst (cutD ds lo hi)))
  | .tup ds, lo, hi => some (.val (.tup (cutD ds lo hi)))
  | .str z, lo, hi => lim z.length (.val (.str (cutS z lo hi)))
  | _, _, _ => none
@[simp] theorem slD_c1  (ds lo hi) : slD (.lst ds) lo hi = some (.tmp (.lst (cutD ds lo hi))) := rfl
@[simp] theorem slD_c2  (ds lo hi) : slD (.tup ds) lo hi = some (.val (.tup (cutD ds lo hi))) := rfl
@[simp] theorem slD_c3  (z lo hi) : slD (.str z) lo hi = lim z.length (.val (.str (cutS z lo hi))) := rfl
noncomputable def sl4 (e : Env) (lo hi : Option Int) : Option D → R Env W
  | some d => opR e (slD d lo hi)
  | none => .no
@[simp] theorem sl4_c1 (e : Env) (lo hi : Option Int) (d) : sl4 e lo hi (some d) = opR e (slD d lo hi) := rfl
@[simp] theorem sl4_c2 (e : Env) (lo hi : Option Int) : sl4 e lo hi none = .no := rfl
noncomputable def sl3 (w : W) (lo : Option Int) : R Env (Option Int) → R Env W
  | .ok hi e => sl4 e lo hi (view (fzv w) e)
  | .ex C fs s => .ex C fs s
  | .no => .no
@[simp] theorem sl3_c1 (w : W) (lo : Option Int) (hi e) : sl3 w lo (.ok hi e) = sl4 e lo hi (view (fzv w) e) := rfl
@[simp] theorem sl3_c2 (w : W) (lo : Option Int) (C fs s) : sl3 w lo (.ex C fs s) = .ex C fs s := rfl
@[simp] theorem sl3_c3 (w : W) (lo : Option Int) : sl3 w lo .no = .no := rfl
noncomputable def sl2 (h : MO) (w : W) : R Env (Option Int) → R Env W
  | .ok lo e => sl3 w lo (h e)
  | .ex C fs s => .ex C fs s
  | .no => .no
@[simp] theorem sl2_c1 (h : MO) (w : W) (lo e) : sl2 h w (.ok lo e) = sl3 w lo (h e) := rfl
@[simp] theorem sl2_c2 (h : MO) (w : W) (C fs s) : sl2 h w (.ex C fs s) = .ex C fs s := rfl
@[simp] theorem sl2_c3 (h : MO) (w : W) : sl2 h w .no = .no := rfl
noncomputable def sl1 (l h : MO) : R Env W → R Env W
  | .ok w e => sl2 h w (l e)
  | .ex C fs s => .ex C fs s
  | .no => .no
@[simp] theorem sl1_c1 (l h : MO) (w e) : sl1 l h (.ok w e) = sl2 h w (l e) := rfl
@[simp] theorem sl1_c2 (l h : MO) (C fs s) : sl1 l h (.ex C fs s) = .ex C fs s := rfl
@[simp] theorem sl1_c3 (l h : MO) : sl1 l h .no = .no := rfl
@[simp] noncomputable def mSl (m : ME) (l h : MO) (e : Env) : R Env W := sl1 l h (m e)
theorem fe_sl {e : Expr} {lo hi : Option Expr} {te : TE} {tl th : TO} {m : ME} {l h : MO} {pos p2 : Pos} (he : FE X c Wx e te m) (hl : FO X c Wx lo tl l) (hh : FO X c Wx hi th h) : FE X c Wx (.Subscript e (.Slice lo hi none p2) pos) (tSl (rSlAll X.K) te tl th) (mSl m l h) :=
  (ve_sl he hl hh).weak fun env Q QX q => by
    have q : (sl1 l h (m env)).po Q QX := q
    show (m env).po _ QX
    cases hA : m env with
    | ex C fs s => rw [hA] at q; exact q
    | no => rw [hA] at q; exact q
    | ok w e1 =>
      rw [hA] at q
      have q : (sl2 h w (l e1)).po Q QX := q
      show (l e1).po _ QX
      cases hB : l e1 with
      | ex C fs s => rw [hB] at q; exact q
      | no => rw [hB] at q; exact q
      | ok lo e2 =>
        rw [hB] at q
        have q : (sl3 w lo (h e2)).po Q QX := q
        show (h e2).po _ QX
        cases hC : h e2 with
        | ex C fs s => rw [hC] at q; exact q
        | no => rw [hC] at q; exact q
        | ok hi e3 =>
          rw [hC] at q
          have q : (sl4 e3 lo hi (view (fzv w) e3)).po Q QX := q
          show rd (fzv w) e3 _
          unfold rd
          cases hD : view (fzv w) e3 with
          | none => rw [hD] at q; exact q
          | some d =>
            rw [hD] at q
            cases d with
            | lst ds => exact q
            | tup ds => exact q
            | str z =>
              have q : (opR e3 (lim z.length (.val (.str (cutS z lo hi))))).po Q QX := q
              cases h1 : lim z.length (W.val (.str (cutS z lo hi))) with
              | none => rw [h1] at q; exact q.elim
              | some w' =>
                rw [h1] at q
                obtain ⟨h2, rfl⟩ := lim_some h1
                exact ⟨h2, q⟩
            | _ => exact q.elim
abbrev F1 := List D → Option W
def CbF (f : F1) (g : GN) : Prop := ∀ ds w (Q : W → Prop), f ds = some w → Q w → g ds Q
def cb2 (f : F1) (e : Env) : Option (List D) → R Env W
  | some ds => opR e (f ds)
  | none => .no
@[simp] theorem cb2_c1 (f : F1) (e : Env) (ds) : cb2 f e (some ds) = opR e (f ds) := rfl
@[simp] theorem cb2_c2 (f : F1) (e : Env) : cb2 f e none = .no := rfl
def cb1 (f : F1) : R Env (List W) → R Env W
  | .ok ws e => cb2 f e (rdsM ws e)
  | .ex C fs s => .ex C fs s
  | .no => .no
@[simp] theorem cb1_c1 (f : F1) (ws e) : cb1 f (.ok ws e) = cb2 f e (rdsM ws e) := rfl
@[simp] theorem cb1_c2 (f : F1) (C fs s) : cb1 f (.ex C fs s) = .ex C fs s := rfl
@[simp] theorem cb1_c3 (f : F1) : cb1 f .no = .no := rfl
@[simp] def mCB (f : F1) (t : MA) (e : Env) : R Env W := cb1 f (t e)
theorem po_cb {f : F1} {g : GN} (hf : CbF f g) {t : MA} {env : Env} {Q : VQ} {QX : VX} (h : vR (mCB f t) env Q QX) : vCB g (vR t) env Q QX := by
  have h : (cb1 f (t env)).po Q QX := h
  show (t env).po _ QX
  cases hA : t env with
  | ex C fs s => rw [hA] at h; exact h
  | no => rw [hA] at h; exact h
  | ok ws e =>
    rw [hA] at h
    have h : (cb2 f e (rdsM ws e)).po Q QX := h
    cases h1 : rdsM ws e with
    | none => rw [h1] at h; exact h.elim
    | some ds =>
      rw [h1] at h
      have h : (opR e (f ds)).po Q QX := h
      refine rds_of h1 ?_
      cases h2 : f ds with
      | none => rw [h2] at h; exact h.elim
      | some w => rw [h2] at h; exact hf ds w _ h2 h
def fLen : F1
  | [.lst ds] => some (.val (.int ds.length))
  | [.tup ds] => some (.val (.int ds.length))
  | [.scr ds] => some (.val (.int ds.length))
  | [.str z] => lim z.length (.val (.int z.length))
  | _ => none
@[simp] theorem fLen_c1  (ds) : fLen [.lst ds] = some (.val (.int ds.length)) := rfl
@[simp] theorem fLen_c2  (ds) : fLen [.tup ds] = some (.val (.int ds.length)) := rfl
@[simp] theorem fLen_c3  (ds) : fLen [.scr ds] = some (.val (.int ds.length)) := rfl
@[simp] theorem fLen_c4  (z) : fLen [.str z] = lim z.length (.val (.int z.length)) := rfl
theorem cbf_len : CbF fLen dLen := by
  intro ds w Q h q
  unfold fLen at h
  split at h
  · cases h; exact q
  · cases h; exact q
  · cases h; exact q
  · obtain ⟨h1, rfl⟩ := lim_some h; exact ⟨h1, q⟩
  · cases h
noncomputable def intS (z : Str) : Option W := cif (z.length ≤ 640) ((PySem.intText? z).map fun n => .val (.int n)) none
noncomputable def fInt : F1
  | [.int i] => some (.val (.int i))
  | [.bl b] => some (.val (.int (if b then 1 else 0)))
  | [.str z] => intS z
  | _ => none
@[simp] theorem fInt_c1  (i) : fInt [.int i] = some (.val (.int i)) := rfl
@[simp] theorem fInt_c2  (b) : fInt [.bl b] = some (.val (.int (if b then 1 else 0))) := rfl
@[simp] theorem fInt_c3  (z) : fInt [.str z] = intS z := rfl
theorem cbf_int : CbF fInt dInt := by
  intro ds w Q h q
  unfold fInt at h
  split at h
  · cases h; exact q
  · cases h; exact q
  · rename_i z
    unfold intS at h
    by_cases hz : z.length ≤ 640
    · rw [cif_pos hz] at h
      cases h1 : PySem.intText? z with
      | none => rw [h1] at h; cases h
      | some n => rw [h1] at h; cases h; exact ⟨n, h1, hz, q⟩
    · rw [cif_neg hz] at h; cases h
  · cases h
def fAbs : F1
  | [.int i] => some (.val (.int (if i < 0 then -i else i)))
  | _ => none
@[simp] theorem fAbs_c1  (i) : fAbs [.int i] = some (.val (.int (if i < 0 then -i else i))) := rfl
def fMax2 : F1
  | [.int i, .int j] => some (.val (.int (if j > i then j else i)))
  | _ => none
@[simp] theorem fMax2_c1  (i j) : fMax2 [.int i, .int j] = some (.val (.int (if j > i then j else i))) := rfl
def fMin2 : F1
  | [.int i, .int j] => some (.val (.int (if j < i then j else i)))
  | _ => none
@[simp] theorem fMin2_c1  (i j) : fMin2 [.int i, .int j] = some (.val (.int (if j < i then j else i))) := rfl
theorem cbf_min2 : CbF fMin2 dMin2 := by
  intro ds w Q h q
  unfold fMin2 at h
  split at h
  · cases h; exact q
  · cases h
def fMax3 : F1
  | [.int i, .int j, .int k] => some (.val (.int (if (if i < j then j else i) < k then k else (if i < j then j else i))))
  | _ => none
@[simp] theorem fMax3_c1  (i j k) : fMax3 [.int i, .int j, .int k] = some (.val (.int (if (if i < j then j else i) < k then k else (if i < j then j else i)))) := rfl
def fTuple : F1
  | [.lst ds] => some (.val (.tup ds))
  | [.tup ds] => some (.val (.tup ds))
  | _ => none
@[simp] theorem fTuple_c1  (ds) : fTuple [.lst ds] = some (.val (.tup ds)) := rfl
@[simp] theorem fTuple_c2  (ds) : fTuple [.tup ds] = some (.val (.tup ds)) := rfl
theorem cbf_tuple : CbF fTuple dTuple := by
  intro ds w Q h q
  unfold fTuple at h
  split at h
  · cases h; exact q
  · cases h; exact q
  · cases h
def fList : F1
  | [.lst ds] => some (.tmp (.lst ds))
  | [.tup ds] => some (.tmp (.lst ds))
  | _ => none
@[simp] theorem fList_c1  (ds) : fList [.lst ds] = some (.tmp (.lst ds)) := rfl
@[simp] theorem fList_c2  (ds) : fList [.tup ds] = some (.tmp (.lst ds)) := rfl
theorem cbf_list : CbF fList dList := by
  intro ds w Q h q
  unfold fList at h
  split at h
  · cases h; exact q
  · cases h; exact q
  · cases h
noncomputable def strI (i : Int) : Option W := cif (i.natAbs.log2 < 1920) (some (.val (.str (Str.ofString (toString i))))) none
noncomputable def fStr : F1
  | [.int i] => strI i
  | _ => none
@[simp] theorem fStr_c1  (i) : fStr [.int i] = strI i := rfl
def optW {α : Type} (f : α → W) : Option α → Option W
  | some a => some (f a)
  | none => none
@[simp] theorem optW_c1 {α : Type} (f : α → W) (a) : optW f (some a) = some (f a) := rfl
@[simp] theorem optW_c2 {α : Type} (f : α → W) : optW f none = none := rfl
def fAll : F1
  | [.lst ds] => optW (fun bs => .val (.bl (bs.all id))) (blsOf ds)
  | _ => none
@[simp] theorem fAll_c1  (ds) : fAll [.lst ds] = optW (fun bs => .val (.bl (bs.all id))) (blsOf ds) := rfl
theorem cbf_all : CbF fAll dAll := by
  intro ds w Q h q
  unfold fAll at h
  split at h
  · rename_i ds
    cases h1 : blsOf ds with
    | none => rw [h1] at h; cases h
    | some bs => rw [h1] at h; cases h; exact ⟨bs, blsOf_some h1, q⟩
  · cases h
def fAny : F1
  | [.lst ds] => optW (fun bs => .val (.bl (bs.any id))) (blsOf ds)
  | _ => none
@[simp] theorem fAny_c1  (ds) : fAny [.lst ds] = optW (fun bs => .val (.bl (bs.any id))) (blsOf ds) := rfl
def fSumL : F1
  | [.lst ds] => optW (fun ns => .val (.int ns.sum)) (intsOf ds)
  | _ => none
@[simp] theorem fSumL_c1  (ds) : fSumL [.lst ds] = optW (fun ns => .val (.int ns.sum)) (intsOf ds) := rfl
section
variable {a b d e : Expr} {t : TA} {v : MA} {p pos : Pos}
theorem fe_len (hm : X.mg "len" = none) (ha : FA X c Wx [e] t v) (hg : Gl X "len" := by rfl) (he : starEach [e] X.env = (false, eval e X.env) :: starEach [] X.env := by rfl) (hpl : (backTo pos (starEach [] X.env)).any (·.1) = false := by rfl) : FE X c Wx (.Call (.Name "len" p) [e] [] pos) (tCB (fun xs H Q => ∃ x n, xs = [x] ∧ LenV X.K x H n ∧ Q (.int n) H) t) (mCB fLen v) := (ve_len hm ha hg he hpl).weak fun _ _ _ h => po_cb cbf_len h
theorem fe_min2 (hm : X.mg "min" = none) (ha : FA X c Wx [a, b] t v) (hc : X.calm = true := by rfl) (hg : Gl X "min" := by rfl) (he : starEach [a, b] X.env = (false, eval a X.env) :: starEach [b] X.env := by rfl) (hpl : (backTo pos (starEach [b] X.env)).any (·.1) = false := by rfl) : FE X c Wx (.Call (.Name "min" p) [a, b] [] pos) (tCB (fun xs H Q => ∃ i j, xs = [.int i, .int j] ∧ Q (.int (if j < i then j else i)) H) t) (mCB fMin2 v) := (ve_min2 hm ha hc hg he hpl).weak fun _ _ _ h => po_cb cbf_min2 h
theorem fe_intc (hm : X.mg "int" = none) (ha : FA X c Wx [e] t v) (hg : Gl X "int" := by rfl) (he : starEach [e] X.env = (false, eval e X.env) :: starEach [] X.env := by rfl) (hpl : (backTo pos (starEach [] X.env)).any (·.1) = false := by rfl) : FE X c Wx (.Call (.Name "int" p) [e] [] pos) (tCB rIntA t) (mCB fInt v) := (ve_intc hm ha hg he hpl).weak fun _ _ _ h => po_cb cbf_int h
theorem fe_tuplec (hm : X.mg "tuple" = none) (ha : FA X c Wx [e] t v) (hg : Gl X "tuple" := by rfl) (he : starEach [e] X.env = (false, eval e X.env) :: starEach [] X.env := by rfl) (hpl : (backTo pos (starEach [] X.env)).any (·.1) = false := by rfl) : FE X c Wx (.Call (.Name "tuple" p) [e] [] pos) (tCB (fun xs H Q => ∃ p ys, xs = [.ref p] ∧ ((SqL X.K H p ys ∧ NewT H ys Q) ∨ (SqT X.K H p ys ∧ Q (.ref p) H))) t) (mCB fTuple v) := (ve_tuplec hm ha hg he hpl).weak fun _ _ _ h => po_cb cbf_tuple h
theorem fe_listc (hm : X.mg "list" = none) (ha : FA X c Wx [e] t v) (hg : Gl X "list" := by rfl) (he : starEach [e] X.env = (false, eval e X.env) :: starEach [] X.env := by rfl) (hpl : (backTo pos (starEach [] X.env)).any (·.1) = false := by rfl) : FE X c Wx (.Call (.Name "list" p) [e] [] pos) (tCB (fun xs H Q => ∃ p ys, xs = [.ref p] ∧ (SqL X.K H p ys ∨ SqT X.K H p ys) ∧ ∀ l, H l = none → Q (.ref l) (upd H l (.lst ys))) t) (mCB fList v) := (ve_listc hm ha hg he hpl).weak fun _ _ _ h => po_cb cbf_list h
theorem fe_all (hm : X.mg "all" = none) (ha : FA X c Wx [e] t v) (hc : X.calm = true := by rfl) (hg : Gl X "all" := by rfl) (he : starEach [e] X.env = (false, eval e X.env) :: starEach [] X.env := by rfl) (hpl : (backTo pos (starEach [] X.env)).any (·.1) = false := by rfl) : FE X c Wx (.Call (.Name "all" p) [e] [] pos) (tCB (rAll X.K) t) (mCB fAll v) := (ve_all hm ha hc hg he hpl).weak fun _ _ _ h => po_cb cbf_all h
end
def isi3 (e : Env) : Option Bool → R Env W
  | some b => .ok (.val (.bl b)) e
  | none => .no
@[simp] theorem isi3_c1 (e : Env) (b) : isi3 e (some b) = .ok (.val (.bl b)) e := rfl
@[simp] theorem isi3_c2 (e : Env) : isi3 e none = .no := rfl
def isi2 (T : TyN) (e : Env) : Option D → R Env W
  | some d => isi3 e (isT T d)
  | none => .no
@[simp] theorem isi2_c1 (T : TyN) (e : Env) (d) : isi2 T e (some d) = isi3 e (isT T d) := rfl
@[simp] theorem isi2_c2 (T : TyN) (e : Env) : isi2 T e none = .no := rfl
def isiK (T : TyN) : R Env W → R Env W
  | .ok w e => isi2 T e (view w e)
  | .ex C fs s => .ex C fs s
  | .no => .no
@[simp] theorem isiK_c1 (T : TyN) (w e) : isiK T (.ok w e) = isi2 T e (view w e) := rfl
@[simp] theorem isiK_c2 (T : TyN) (C fs s) : isiK T (.ex C fs s) = .ex C fs s := rfl
@[simp] theorem isiK_c3 (T : TyN) : isiK T .no = .no := rfl
@[simp] def mIsi (T : TyN) (m : ME) (e : Env) : R Env W := isiK T (m e)
theorem fe_isi {x : Expr} {tx : TE} {m : ME} {p p2 pos : Pos} {n : Str} (T : TyN) (hm : X.mg "isinstance" = none) (hmT : X.mg n = none) (hT : bootBuiltins n = some (.type T.s)) (hx : FE X c Wx x tx m) (hg : Gl X "isinstance" := by rfl) (hgT : Gl X n := by rfl) (hn : n ≠ "__name__" := by decide) (hd : (n == ("__debug__" : Str)) = false := by decide)
    (he : starEach [x, .Name n p2] X.env = (false, eval x X.env) :: starEach [.Name n p2] X.env := by rfl) (he2 : starEach [.Name n p2] X.env = (false, eval (.Name n p2) X.env) :: starEach [] X.env := by rfl) (hpl : (backTo pos (starEach [.Name n p2] X.env)).any (·.1) = false := by rfl) :
    FE X c Wx (.Call (.Name "isinstance" p) [x, .Name n p2] [] pos) (tCB (rIsi X.K) (tCons tx (tCons (tC (.ty T.s)) tNil))) (mIsi T m) := (ve_isi T hm hmT hT hx hg hgT hn hd he he2 hpl).weak fun env Q QX h => by
  have h : (isiK T (m env)).po Q QX := h
  show (m env).po _ QX
  cases hA : m env with
  | ex C fs s => rw [hA] at h; exact h
  | no => rw [hA] at h; exact h
  | ok w e =>
    rw [hA] at h
    have h : (isi2 T e (view w e)).po Q QX := h
    show rd w e _
    unfold rd
    cases h1 : view w e with
    | none => rw [h1] at h; exact h
    | some d =>
      rw [h1] at h
      have h : (isi3 e (isT T d)).po Q QX := h
      show match isT T d with | some b => _ | none => _
      cases h2 : isT T d with
      | none => rw [h2] at h; exact h
      | some b => rw [h2] at h; exact h
noncomputable def joinS (a : Str) (ss : List Str) : Option W := cif ((ss.map (·.length)).sum + ss.length * a.length ≤ 16777216) (some (.val (.str (Txt.join a ss)))) none
@[simp] theorem joinS_of {a : Str} {ss : List Str} (h : (ss.map (·.length)).sum + ss.length * a.length ≤ 16777216) : joinS a ss = some (.val (.str (Txt.join a ss))) := cif_pos h
noncomputable def joinL (a : Str) : Option (List Str) → Option W
  | some ss => joinS a ss
  | none => none
@[simp] theorem joinL_c1 (a : Str) (ss) : joinL a (some ss) = joinS a ss := rfl
@[simp] theorem joinL_c2 (a : Str) : joinL a none = none := rfl
noncomputable def fJoin : F2
  | .str a, .tup ds => joinL a (strsOf ds)
  | .str a, .lst ds => joinL a (strsOf ds)
  | _, _ => none
@[simp] theorem fJoin_c1  (a ds) : fJoin (.str a) (.tup ds) = joinL a (strsOf ds) := rfl
@[simp] theorem fJoin_c2  (a ds) : fJoin (.str a) (.lst ds) = joinL a (strsOf ds) := rfl
def j3 (f : F2) (e : Env) (a : D) : Option D → R Env W
  | some d => opR e (f a d)
  | none => .no
@[simp] theorem j3_c1 (f : F2) (e : Env) (a : D) (d) : j3 f e a (some d) = opR e (f a d) := rfl
@[simp] theorem j3_c2 (f : F2) (e : Env) (a : D) : j3 f e a none = .no := rfl
def j2 (f : F2) (a : D) : R Env W → R Env W
  | .ok w e => j3 f e a (view w e)
  | .ex C fs s => .ex C fs s
  | .no => .no
@[simp] theorem j2_c1 (f : F2) (a : D) (w e) : j2 f a (.ok w e) = j3 f e a (view w e) := rfl
@[simp] theorem j2_c2 (f : F2) (a : D) (C fs s) : j2 f a (.ex C fs s) = .ex C fs s := rfl
@[simp] theorem j2_c3 (f : F2) (a : D) : j2 f a .no = .no := rfl
def j1 (f : F2) (b : ME) : R Env W → R Env W
  | .ok (.val (.str a)) e => j2 f (.str a) (b e)
  | .ex C fs s => .ex C fs s
  | _ => .no
@[simp] theorem j1_c1 (f : F2) (b : ME) (a e) : j1 f b (.ok (.val (.str a)) e) = j2 f (.str a) (b e) := rfl
@[simp] theorem j1_c2 (f : F2) (b : ME) (C fs s) : j1 f b (.ex C fs s) = .ex C fs s := rfl
@[simp] def mSM (f : F2) (a b : ME) (e : Env) : R Env W := j1 f b (a e)
theorem fe_join {o e : Expr} {to te : TE} {mo me : ME} {apos pos : Pos} (ho : FE X c Wx o to mo) (he : FE X c Wx e te me) (hs : starEach [e] X.env = [(false, eval e X.env)] := by rfl) (hbase : attributeBase o "join" X.env (eval o X.env) = eval o X.env := by rfl) (hline : (apos.endLine == pos.line) = true := by rfl) :
    FE X c Wx (.Call (.Attribute o "join" apos) [e] [] pos) (tM1 (fun x xs H Q => ∃ a p, ∃ ys : List Str, x = .str a ∧ xs = [.ref p] ∧ (SqL X.K H p (ys.map V.str) ∨ SqT X.K H p (ys.map V.str)) ∧
      (ys.map (·.length)).sum + ys.length * a.length ≤ 16777216 ∧ Q (.str (Txt.join a ys)) H) to te) (mSM fJoin mo me) := (ve_join ho he hs hbase hline).weak fun env Q QX h => by
  have h : (j1 fJoin me (mo env)).po Q QX := h
  show (mo env).po _ QX
  cases hA : mo env with
  | ex C fs s => rw [hA] at h; exact h
  | no => rw [hA] at h; exact h
  | ok w e =>
    rw [hA] at h
    cases w with
    | cel i => exact h.elim
    | tmp oc => exact h.elim
    | val d =>
      cases d with
      | str a =>
        have h : (j2 fJoin (.str a) (me e)).po Q QX := h
        show (me e).po _ QX
        cases hB : me e with
        | ex C fs s => rw [hB] at h; exact h
        | no => rw [hB] at h; exact h
        | ok w2 e2 =>
          rw [hB] at h
          have h : (j3 fJoin e2 (.str a) (view w2 e2)).po Q QX := h
          show rd w2 e2 _
          unfold rd
          cases h1 : view w2 e2 with
          | none => rw [h1] at h; exact h
          | some d2 =>
            rw [h1] at h
            have h : (opR e2 (fJoin (.str a) d2)).po Q QX := h
            have key : ∀ ds : List D, (opR e2 (joinL a (strsOf ds))).po Q QX → ∃ ss : List Str, ds = ss.map D.str ∧ (ss.map (·.length)).sum + ss.length * a.length ≤ 16777216 ∧ Q (.val (.str (Txt.join a ss))) e2 := fun ds h => by
              cases h2 : strsOf ds with
              | none => rw [h2] at h; exact h.elim
              | some ss =>
                rw [h2] at h
                have h : (opR e2 (joinS a ss)).po Q QX := h
                unfold joinS at h
                by_cases hz : (ss.map (·.length)).sum + ss.length * a.length ≤ 16777216
                · rw [cif_pos hz] at h; exact ⟨ss, strsOf_some h2, hz, h⟩
                · rw [cif_neg hz] at h; exact h.elim
            cases d2 with
            | tup ds => exact key ds h
            | lst ds => exact key ds h
            | _ => exact h.elim
      | _ => exact h.elim
noncomputable def splitS (a b : Str) : Option W := cif ((b.length == 0) = false ∧ a.length + 2 ≤ sizeLine) (some (.tmp (.lst ((Txt.split a b).map D.str)))) none
@[simp] theorem splitS_of {a b : Str} (h : (b.length == 0) = false) (h2 : a.length ≤ 16777214) : splitS a b = some (.tmp (.lst ((Txt.split a b).map D.str))) := cif_pos ⟨h, show a.length + 2 ≤ 16777216 by omega⟩
def ss2 (f : Str → Str → Option W) (a : Str) : R Env W → R Env W
  | .ok (.val (.str b)) e => opR e (f a b)
  | .ex C fs s => .ex C fs s
  | _ => .no
@[simp] theorem ss2_c1 (f : Str → Str → Option W) (a : Str) (b e) : ss2 f a (.ok (.val (.str b)) e) = opR e (f a b) := rfl
@[simp] theorem ss2_c2 (f : Str → Str → Option W) (a : Str) (C fs s) : ss2 f a (.ex C fs s) = .ex C fs s := rfl
def ss1 (f : Str → Str → Option W) (b : ME) : R Env W → R Env W
  | .ok (.val (.str a)) e => ss2 f a (b e)
  | .ex C fs s => .ex C fs s
  | _ => .no
@[simp] theorem ss1_c1 (f : Str → Str → Option W) (b : ME) (a e) : ss1 f b (.ok (.val (.str a)) e) = ss2 f a (b e) := rfl
@[simp] theorem ss1_c2 (f : Str → Str → Option W) (b : ME) (C fs s) : ss1 f b (.ex C fs s) = .ex C fs s := rfl
@[simp] def mSS (f : Str → Str → Option W) (a b : ME) (e : Env) : R Env W := ss1 f b (a e)
theorem po_ss {f : Str → Str → Option W} {a b : ME} {env : Env} {Q : VQ} {QX : VX} (h : vR (mSS f a b) env Q QX) : vR a env (fun w1 env1 => strW w1 fun x => vR b env1 (fun w2 env2 => strW w2 fun y => ∃ w, f x y = some w ∧ Q w env2) QX) QX := by
  have h : (ss1 f b (a env)).po Q QX := h
  show (a env).po _ QX
  cases hA : a env with
  | ex C fs s => rw [hA] at h; exact h
  | no => rw [hA] at h; exact h
  | ok w e =>
    rw [hA] at h
    cases w with
    | cel i => exact h.elim
    | tmp oc => exact h.elim
    | val d =>
      cases d with
      | str x =>
        have h : (ss2 f x (b e)).po Q QX := h
        show (b e).po _ QX
        cases hB : b e with
        | ex C fs s => rw [hB] at h; exact h
        | no => rw [hB] at h; exact h
        | ok w2 e2 =>
          rw [hB] at h
          cases w2 with
          | cel i => exact h.elim
          | tmp oc => exact h.elim
          | val d2 =>
            cases d2 with
            | str y =>
              have h : (opR e2 (f x y)).po Q QX := h
              show ∃ w, f x y = some w ∧ Q w e2
              cases h2 : f x y with
              | none => rw [h2] at h; exact h.elim
              | some w => rw [h2] at h; exact ⟨w, rfl, h⟩
            | _ => exact h.elim
      | _ => exact h.elim
theorem fe_split {o e : Expr} {to te : TE} {mo me : ME} {apos pos : Pos} (ho : FE X c Wx o to mo) (he : FE X c Wx e te me) (hs : starEach [e] X.env = [(false, eval e X.env)] := by rfl) (hbase : attributeBase o "split" X.env (eval o X.env) = eval o X.env := by rfl) (hline : (apos.endLine == pos.line) = true := by rfl) :
    FE X c Wx (.Call (.Attribute o "split" apos) [e] [] pos) (tM1 (fun x xs H Q => ∃ a b, x = .str a ∧ xs = [.str b] ∧ (b.length == 0) = false ∧ a.length + 2 ≤ sizeLine ∧ rNewStrs (Txt.split a b) H Q) to te) (mSS splitS mo me) := (ve_split ho he hs hbase hline).weak fun env Q QX h => by
  refine po_mono (po_ss h) fun w e h1 => ?_
  obtain ⟨a, rfl, h1⟩ := strW_of h1
  refine po_mono h1 fun w e h2 => ?_
  obtain ⟨b, rfl, w, h3, h2⟩ := strW_of h2
  unfold splitS at h3
  by_cases hz : (b.length == 0) = false ∧ a.length + 2 ≤ sizeLine
  · rw [cif_pos hz] at h3; cases h3; exact ⟨hz.1, hz.2, h2⟩
  · rw [cif_neg hz] at h3; cases h3
end
end
end VL
set_option Elab.async false
set_option linter.all false
set_option maxRecDepth 100000
set_option maxHeartbeats 4000000
namespace VL
noncomputable section
open PySem PySem.Spec PyProof.Rows L2
variable [CM]
section
variable {K : PySem.W.Frag} {c : VC} {Wx : WX} {X : Cx}
def spF (F : FN) : VSp := fun ms A B => match F ms with
  | .ok w outs => A w outs
  | .ex C fs outs => B C fs outs
  | .no => False
def argO : Option (Option M) → Option M
  | some (some m) => some m
  | _ => none
@[simp] theorem argO_c1  (m) : argO (some (some m)) = some m := rfl
def arg1 : W → Env → Option M
  | .val d, _ => some (.val d)
  | .cel i, e => argO e[i]?
  | .tmp _, _ => none
@[simp] theorem arg1_c1  (i e) : arg1 (.cel i) e = argO e[i]? := rfl
@[simp] theorem arg1_v (d : D) (e : Env) : arg1 (.val d) e = some (.val d) := rfl
@[simp] theorem arg1_t (oc : OC) (e : Env) : arg1 (.tmp oc) e = none := rfl
@[simp] def argsF : List W → Env → Option (List M)
  | [], _ => some []
  | w :: ws, e => match arg1 w e, argsF ws e with
    | some m, some ms => some (m :: ms)
    | _, _ => none
@[simp] def ndB : List Nat → Bool
  | [] => true
  | x :: xs => !(xs.contains x) && ndB xs
theorem ndB_of : ∀ {l : List Nat}, ndB l = true → l.Nodup
  | [], _ => List.nodup_nil
  | x :: xs, h => by
    simp only [ndB, Bool.and_eq_true, Bool.not_eq_true', List.contains_eq_mem, decide_eq_false_iff_not] at h
    exact List.nodup_cons.mpr ⟨h.1, ndB_of h.2⟩
@[simp] def wbF : Env → List W → List M → Env
  | e, .cel i :: ws, .own oc :: os => (wbF e ws os).set i (some (.own oc))
  | e, .cel _ :: ws, .val _ :: os => wbF e ws os
  | e, .val _ :: ws, _ :: os => wbF e ws os
  | e, .tmp _ :: ws, _ :: os => wbF e ws os
  | e, _, _ => e
theorem wbF_get : ∀ (ws : List W) (os : List M) (e : Env) (j : Nat), (wbF e ws os)[j]? = e[j]?.map fun m => match fnd j ws os with
    | some oc => some (.own oc)
    | none => m
  | [], os, e, j => by cases os <;> simp [wbF, fnd]
  | .val d :: ws, [], e, j => by simp [wbF, fnd]
  | .tmp d :: ws, [], e, j => by simp [wbF, fnd]
  | .cel d :: ws, [], e, j => by simp [wbF, fnd]
  | .val d :: ws, o :: os, e, j => by simpa [wbF, fnd] using wbF_get ws os e j
  | .tmp d :: ws, o :: os, e, j => by simpa [wbF, fnd] using wbF_get ws os e j
  | .cel i :: ws, .val d :: os, e, j => by simpa [wbF, fnd] using wbF_get ws os e j
  | .cel i :: ws, .own oc :: os, e, j => by
    have ih := wbF_get ws os e j
    show ((wbF e ws os).set i (some (.own oc)))[j]? = _
    by_cases h : i = j
    · subst h
      rw [List.getElem?_set_self', ih]
      simp [fnd]
      cases e[i]? <;> simp
    · rw [List.getElem?_set_ne h, ih]
      have e1 : fnd j (.cel i :: ws) (.own oc :: os) = fnd j ws os := by simp [fnd, h]
      rw [e1]
theorem wbF_eq (e : Env) (ws : List W) (os : List M) : wbF e ws os = wb e ws os := by
  apply List.ext_getElem?
  intro j
  exact (wbF_get ..).trans (wb_get ..).symm
def call3 (e : Env) (ws : List W) : R (List M) W → R Env W
  | .ok w os => .ok w (wbF e ws os)
  | .ex C fs os => .ex C fs (wbF e ws os)
  | .no => .no
@[simp] theorem call3_c1 (e : Env) (ws : List W) (w os) : call3 e ws (.ok w os) = .ok w (wbF e ws os) := rfl
@[simp] theorem call3_c2 (e : Env) (ws : List W) (C fs os) : call3 e ws (.ex C fs os) = .ex C fs (wbF e ws os) := rfl
@[simp] theorem call3_c3 (e : Env) (ws : List W) : call3 e ws .no = .no := rfl
def call2 (F : FN) (e : Env) (ws : List W) : Bool → Option (List M) → R Env W
  | true, some ms => call3 e ws (F ms)
  | _, _ => .no
@[simp] theorem call2_c1 (F : FN) (e : Env) (ws : List W) (ms) : call2 F e ws true (some ms) = call3 e ws (F ms) := rfl
def call1 (F : FN) : R Env (List W) → R Env W
  | .ok ws e => call2 F e ws (ndB (cels ws e)) (argsF ws e)
  | .ex C fs s => .ex C fs s
  | .no => .no
@[simp] theorem call1_c1 (F : FN) (ws e) : call1 F (.ok ws e) = call2 F e ws (ndB (cels ws e)) (argsF ws e) := rfl
@[simp] theorem call1_c2 (F : FN) (C fs s) : call1 F (.ex C fs s) = .ex C fs s := rfl
@[simp] theorem call1_c3 (F : FN) : call1 F .no = .no := rfl
@[simp] def mCall (F : FN) (t : MA) (e : Env) : R Env W := call1 F (t e)
theorem argMs_of : ∀ {ws : List W} {e : Env} {ms : List M} {k : List M → Prop}, argsF ws e = some ms → k ms → argMs ws e k
  | [], e, ms, k, h, q => by cases h; exact q
  | w :: ws, e, ms, k, h, q => by
    unfold argsF at h
    split at h
    · rename_i m ms' h1 h2
      cases h
      have q' : argMs ws e fun ms => k (m :: ms) := argMs_of h2 q
      show argM w e _
      cases w with
      | val d => cases h1; exact q'
      | tmp oc => cases h1
      | cel i =>
        rw [argM_cel]
        have h1 : argO e[i]? = some m := h1
        generalize e[i]? = o at h1
        rcases o with _ | _ | m'
        · cases h1
        · cases h1
        · cases h1; exact q'
    · cases h
theorem po_call {F : FN} {t : MA} {env : Env} {Q : VQ} {QX : VX} (h : vR (mCall F t) env Q QX) : vCall (spF F) (vR t) env Q QX := by
  have h : (call1 F (t env)).po Q QX := h
  show (t env).po _ QX
  cases hA : t env with
  | ex C fs s => rw [hA] at h; exact h
  | no => rw [hA] at h; exact h
  | ok ws e =>
    rw [hA] at h
    have h : (call2 F e ws (ndB (cels ws e)) (argsF ws e)).po Q QX := h
    cases h1 : ndB (cels ws e) with
    | false => rw [h1] at h; cases h2 : argsF ws e <;> rw [h2] at h <;> exact h.elim
    | true =>
      cases h2 : argsF ws e with
      | none => rw [h1, h2] at h; exact h.elim
      | some ms =>
        rw [h1, h2] at h
        have h : (call3 e ws (F ms)).po Q QX := h
        refine argMs_of h2 ⟨ndB_of h1, ?_⟩
        unfold spF
        cases hF : F ms with
        | no => rw [hF] at h; exact h
        | ok w os => rw [hF] at h; show Q w (wb e ws os); rw [← wbF_eq]; exact h
        | ex C fs os => rw [hF] at h; show QX C fs (wb e ws os); rw [← wbF_eq]; exact h
theorem fe_fn {x : Str} {k : Nat} {ps : List Str} {F : FN} {fa : Addr} {fd : FuncData} {p pos : Pos} {e : Expr} {es : List Expr} {t : TA} {v : MA} (C : Callee X.prog X.w X.K X.mg X.base c.T x k ps (spF F) fa fd) (hr : Room k X.A) (hx : L2N.Takes X Wx)
    (ha : FA X c Wx (e :: es) t v) (hg : Gl X x := by rfl) (hdb : (x == ("__debug__" : Str)) = false := by decide) (he : starEach (e :: es) X.env = (false, eval e X.env) :: starEach es X.env := by rfl) (hpl : (backTo pos (starEach es X.env)).any (·.1) = false := by rfl) :
    FE X c Wx (.Call (.Name x p) (e :: es) [] pos) (tCallSD (spOf X.K c.T (spF F)) [] (WE Wx) t) (mCall F v) := (ve_fn C hr hx ha hg hdb he hpl).weak fun env Q QX h => po_call h
def callT3 (e : Env) (ws : List W) : R (List M) W → R Env W
  | .ok w os => .ok w (wbF e ws os.tail)
  | .ex C fs os => .ex C fs (wbF e ws os.tail)
  | .no => .no
@[simp] theorem callT3_c1 (e : Env) (ws : List W) (w os) : callT3 e ws (.ok w os) = .ok w (wbF e ws os.tail) := rfl
@[simp] theorem callT3_c2 (e : Env) (ws : List W) (C fs os) : callT3 e ws (.ex C fs os) = .ex C fs (wbF e ws os.tail) := rfl
@[simp] theorem callT3_c3 (e : Env) (ws : List W) : callT3 e ws .no = .no := rfl
def callT2 (F : FN) (oc : OC) (e : Env) (ws : List W) : Bool → Option (List M) → R Env W
  | true, some ms => callT3 e ws (F (.own oc :: ms))
  | _, _ => .no
@[simp] theorem callT2_c1 (F : FN) (oc : OC) (e : Env) (ws : List W) (ms) : callT2 F oc e ws true (some ms) = callT3 e ws (F (.own oc :: ms)) := rfl
def callT1 (F : FN) (oc : OC) : R Env (List W) → R Env W
  | .ok ws e => callT2 F oc e ws (ndB (cels ws e)) (argsF ws e)
  | .ex C fs s => .ex C fs s
  | .no => .no
@[simp] theorem callT1_c1 (F : FN) (oc : OC) (ws e) : callT1 F oc (.ok ws e) = callT2 F oc e ws (ndB (cels ws e)) (argsF ws e) := rfl
@[simp] theorem callT1_c2 (F : FN) (oc : OC) (C fs s) : callT1 F oc (.ex C fs s) = .ex C fs s := rfl
@[simp] theorem callT1_c3 (F : FN) (oc : OC) : callT1 F oc .no = .no := rfl
def callT0 (F : FN) (t : MA) : R Env W → R Env W
  | .ok (.tmp oc) e => callT1 F oc (t e)
  | .ex C fs s => .ex C fs s
  | _ => .no
@[simp] theorem callT0_c1 (F : FN) (t : MA) (oc e) : callT0 F t (.ok (.tmp oc) e) = callT1 F oc (t e) := rfl
@[simp] theorem callT0_c2 (F : FN) (t : MA) (C fs s) : callT0 F t (.ex C fs s) = .ex C fs s := rfl
@[simp] def mCallT (F : FN) (m : ME) (t : MA) (e : Env) : R Env W := callT0 F t (m e)
noncomputable def app4 (j : Nat) (d : D) (e : Env) : Option (Option M) → R Env W
  | some (some (.own (.lst ds))) => cif (ds.length < sizeLine) (.ok (.val .non) (e.set j (some (.own (.lst (ds ++ [d])))))) .no
  | _ => .no
@[simp] theorem app4_own {j : Nat} {d : D} {e : Env} {ds : List D} (h : ds.length < 16777216) : app4 j d e (some (some (.own (.lst ds)))) = .ok (.val .non) (e.set j (some (.own (.lst (ds ++ [d]))))) := cif_pos h
noncomputable def app3 (j : Nat) : R Env D → R Env W
  | .ok d e => app4 j d e e[j]?
  | .ex C fs s => .ex C fs s
  | .no => .no
@[simp] theorem app3_c1 (j : Nat) (d e) : app3 j (.ok d e) = app4 j d e e[j]? := rfl
@[simp] theorem app3_c2 (j : Nat) (C fs s) : app3 j (.ex C fs s) = .ex C fs s := rfl
@[simp] theorem app3_c3 (j : Nat) : app3 j .no = .no := rfl
noncomputable def app2 (j : Nat) (m : ME) (e : Env) : Option (Option M) → R Env W
  | some (some (.own (.lst _))) => app3 j (bd (fun w e => fzM (fzv w) e) (m e))
  | _ => .no
@[simp] theorem app2_c1 (j : Nat) (m : ME) (e : Env) (x1) : app2 j m e (some (some (.own (.lst x1)))) = app3 j (bd (fun w e => fzM (fzv w) e) (m e)) := rfl
noncomputable def app1 (m : ME) : R Env W → R Env W
  | .ok (.cel j) e => app2 j m e e[j]?
  | .ex C fs s => .ex C fs s
  | _ => .no
@[simp] theorem app1_c1 (m : ME) (j e) : app1 m (.ok (.cel j) e) = app2 j m e e[j]? := rfl
@[simp] theorem app1_c2 (m : ME) (C fs s) : app1 m (.ex C fs s) = .ex C fs s := rfl
@[simp] noncomputable def mApp (o m : ME) (e : Env) : R Env W := app1 m (o e)
theorem fe_append {o e : Expr} {to : TE} {mo m : ME} {te : TE} {apos cpos : Pos} (ho : FE X c Wx o to mo) (ha : FE X c Wx e te m)
    (hbase : attributeBase o "append" X.env (eval o X.env) = eval o X.env := by rfl)
    (hfew : ((backTo cpos (starEach [e] X.env)).all (fun x => !x.1) && (backToKw cpos (keywordEach [] X.env)).all (fun x => x.1.isSome)
      && decide ([e].length + ([] : List Keyword).length + (if ([] : List Keyword).isEmpty then 0 else 1) < 30)) = true := by rfl)
    (hline : (apos.endLine == cpos.line) = true := by rfl) (hs : starEach [e] X.env = (false, eval e X.env) :: starEach [] X.env := by rfl) (hplain : (backTo cpos (starEach [] X.env)).any (·.1) = false := by rfl) :
    FE X c Wx (.Call (.Attribute o "append" apos) [e] [] cpos) (tBM X.K "list" rAppend to (tCons te tNil)) (mApp mo m) := (ve_append ho (fa_cons ha fa_nil hs) hbase hfew hline hs hplain).weak fun env Q QX h => by
  have h : (app1 m (mo env)).po Q QX := h
  show (mo env).po _ QX
  cases hM : mo env with
  | ex C fs s => rw [hM] at h; exact h
  | no => rw [hM] at h; exact h
  | ok w0 e0 =>
    rw [hM] at h
    cases w0 with
    | val d => exact h.elim
    | tmp oc => exact h.elim
    | cel j =>
      have h : (app2 j m e0 e0[j]?).po Q QX := h
      show match e0[j]? with | some (some (.own (.lst _))) => _ | _ => False
      generalize e0[j]? = o0 at h
      rcases o0 with _ | _ | d | ⟨⟩ | oc
      · exact h.elim
      · exact h.elim
      · exact h.elim
      · have h : (app3 j (bd (fun w e => fzM (fzv w) e) (m e0))).po Q QX := h
        show (mCons m mNil e0).po _ QX
        show (sq mNil (fun w ws => fzv w :: ws) (m e0)).po _ QX
        cases hB : m e0 with
        | ex C fs s => rw [hB] at h; exact h
        | no => rw [hB] at h; exact h
        | ok w e1 =>
          rw [hB] at h
          have h : (app3 j (fzM (fzv w) e1)).po Q QX := h
          show fz (fzv w) e1 (fun d env3 => match env3[j]? with
            | some (some (M.own (OC.lst ds))) => ds.length < sizeLine ∧ Q (W.val D.non) (List.set env3 j (some (M.own (OC.lst (ds ++ [d])))))
            | x => False)
          refine po_fz (QX := QX) ?_
          cases hC : fzM (fzv w) e1 with
          | ex C fs s => rw [hC] at h; exact h
          | no => rw [hC] at h; exact h
          | ok d e2 =>
            rw [hC] at h
            have h : (app4 j d e2 e2[j]?).po Q QX := h
            show match e2[j]? with | some (some (.own (.lst ds))) => _ | _ => False
            generalize e2[j]? = o2 at h
            rcases o2 with _ | _ | d' | ⟨⟩ | oc
            · exact h.elim
            · exact h.elim
            · exact h.elim
            · rename_i ds2
              simp only [app4] at h
              by_cases hz : ds2.length < sizeLine
              · rw [cif_pos hz] at h; exact ⟨hz, h⟩
              · rw [cif_neg hz] at h; exact h.elim
            · exact h.elim
      · exact h.elim
inductive SR where
  | nx (e : Env)
  | rt (w : W) (e : Env)
  | bk (e : Env)
  | ct (e : Env)
  | ex (C : Str) (fs : List (Str × D)) (e : Env)
  | no
abbrev MS := Env → SR
def SR.po (r : SR) (DV : VEnds) : Prop := match r with
  | .nx e => DV.nx e
  | .rt w e => DV.rt w e
  | .bk e => DV.bk e
  | .ct e => DV.ct e
  | .ex C fs e => DV.ex C fs e
  | .no => False
def vS (m : MS) : VS := fun DV env => (m env).po DV
abbrev FSt (X : Cx) (c : VC) (Wx : WX) (st : Stmt) (ts : TS) (m : MS) : Prop := VSt X c Wx st ts (vS m)
abbrev FSs (X : Cx) (c : VC) (Wx : WX) (st : List Stmt) (ts : TS) (m : MS) : Prop := VSs X c Wx st ts (vS m)
theorem VSt.weak {e : Stmt} {te : TS} {t t' : VS} (h : VSt X c Wx e te t) (hw : ∀ DV env, t' DV env → t DV env) : VSt X c Wx e te t' :=
  ⟨h.ps, fun f Hb env σ H DV D R q k => h.sim f Hb env σ H DV D R (hw _ _ q) k⟩
theorem VSs.weak {e : List Stmt} {te : TS} {t t' : VS} (h : VSs X c Wx e te t) (hw : ∀ DV env, t' DV env → t DV env) : VSs X c Wx e te t' :=
  ⟨h.ps, fun f Hb env σ H DV D R q k => h.sim f Hb env σ H DV D R (hw _ _ q) k⟩
def toS {α : Type} (k : α → Env → SR) : R Env α → SR
  | .ok a e => k a e
  | .ex C fs s => .ex C fs s
  | .no => .no
@[simp] theorem toS_c1 {α : Type} (k : α → Env → SR) (a e) : toS k (.ok a e) = k a e := rfl
@[simp] theorem toS_c2 {α : Type} (k : α → Env → SR) (C fs s) : toS k (.ex C fs s) = .ex C fs s := rfl
@[simp] theorem toS_c3 {α : Type} (k : α → Env → SR) : toS k .no = .no := rfl
@[simp] def mNext (e : Env) : SR := .nx e
def seqK (b : MS) : SR → SR
  | .nx e => b e
  | .rt w e => .rt w e
  | .bk e => .bk e
  | .ct e => .ct e
  | .ex C fs e => .ex C fs e
  | .no => .no
@[simp] theorem seqK_c1 (b : MS) (e) : seqK b (.nx e) = b e := rfl
@[simp] theorem seqK_c2 (b : MS) (w e) : seqK b (.rt w e) = .rt w e := rfl
@[simp] theorem seqK_c3 (b : MS) (e) : seqK b (.bk e) = .bk e := rfl
@[simp] theorem seqK_c4 (b : MS) (e) : seqK b (.ct e) = .ct e := rfl
@[simp] theorem seqK_c5 (b : MS) (C fs e) : seqK b (.ex C fs e) = .ex C fs e := rfl
@[simp] theorem seqK_c6 (b : MS) : seqK b .no = .no := rfl
@[simp] def mSeq (a b : MS) (e : Env) : SR := seqK b (a e)
theorem fss_nil : FSs X c Wx [] tNext mNext := vss_nil.weak fun _ _ h => h
theorem fss_one {st : Stmt} {ts : TS} {t : MS} (h : FSt X c Wx st ts t) : FSs X c Wx [st] ts t := vss_one h
theorem fss_cons {st : Stmt} {rest : List Stmt} {ts us : TS} {t u : MS} (h : FSt X c Wx st ts t) (g : FSs X c Wx rest us u) : FSs X c Wx (st :: rest) (tSeq ts us) (mSeq t u) := (vss_cons h g).weak fun DV env h => by
  have h : (seqK u (t env)).po DV := h
  show (t env).po _
  cases hA : t env <;> rw [hA] at h <;> exact h
def killS (ks : List Nat) : SR → SR
  | .nx e => .nx (wipeE e ks)
  | .rt w e => .rt w e
  | .bk e => .bk (wipeE e ks)
  | .ct e => .ct (wipeE e ks)
  | .ex C fs e => .ex C fs e
  | .no => .no
@[simp] theorem killS_c1 (ks : List Nat) (e) : killS ks (.nx e) = .nx (wipeE e ks) := rfl
@[simp] theorem killS_c2 (ks : List Nat) (w e) : killS ks (.rt w e) = .rt w e := rfl
@[simp] theorem killS_c3 (ks : List Nat) (e) : killS ks (.bk e) = .bk (wipeE e ks) := rfl
@[simp] theorem killS_c4 (ks : List Nat) (e) : killS ks (.ct e) = .ct (wipeE e ks) := rfl
@[simp] theorem killS_c5 (ks : List Nat) (C fs e) : killS ks (.ex C fs e) = .ex C fs e := rfl
@[simp] theorem killS_c6 (ks : List Nat) : killS ks .no = .no := rfl
@[simp] def mKill (ks : List Nat) (m : MS) (e : Env) : SR := killS ks (m e)
theorem Rl.wipeN {f : Fm} {Hb H : Hp} {env : Env} {σ : L2.St} (R : Rl K c f Hb env σ H) : ∀ ks : List Nat, Rl K c f Hb (wipeE env ks) σ H
  | [] => R
  | k :: ks => (Rl.wipeN R ks).unset k
theorem sim_kill {ts : TS} {m : MS} {ks : List Nat} (h : SimS K c Wx ts (vS m)) : SimS K c Wx ts (vS (mKill ks m)) := by
  intro f Hb env σ H DV D R q k
  refine h f Hb env σ H { nx := fun e => DV.nx (wipeE e ks), rt := DV.rt, bk := fun e => DV.bk (wipeE e ks), ct := fun e => DV.ct (wipeE e ks), ex := DV.ex } D R ?_ ⟨fun e s H' Hb' a R' => k.nx _ _ _ _ a (R'.wipeN ks), k.rt, fun e s H' Hb' a R' => k.bk _ _ _ _ a (R'.wipeN ks), fun e s H' Hb' a R' => k.ct _ _ _ _ a (R'.wipeN ks), k.ex⟩
  have q : (killS ks (m env)).po DV := q
  show (m env).po _
  cases hA : m env <;> rw [hA] at q <;> exact q
theorem fst_kill {st : Stmt} {ts : TS} {m : MS} (ks : List Nat) (h : FSt X c Wx st ts m) : FSt X c Wx st ts (mKill ks m) := ⟨h.ps, sim_kill h.sim⟩
theorem fss_kill {st : List Stmt} {ts : TS} {m : MS} (ks : List Nat) (h : FSs X c Wx st ts m) : FSs X c Wx st ts (mKill ks m) := ⟨h.ps, sim_kill h.sim⟩
abbrev GM := D → Env → Option Env
abbrev GMs := List D → Env → Option Env
def poO (Q : Env → Prop) : Option Env → Prop
  | some e => Q e
  | none => False
@[simp] theorem poO_c1 (Q : Env → Prop) (e) : poO Q (some e) = Q e := rfl
@[simp] theorem poO_c2 (Q : Env → Prop) : poO Q none = False := rfl
def vGm (g : GM) : VG := fun d env Q => poO Q (g d env)
def vGms (g : GMs) : VGs := fun d env Q => poO Q (g d env)
abbrev FG (X : Cx) (c : VC) (ss : List Nat) (tg : Expr) (g : TG) (m : GM) : Prop := VGt X c ss tg g (vGm m)
abbrev FGs (X : Cx) (c : VC) (ss : List Nat) (tg : List Expr) (g : TGs) (m : GMs) : Prop := VGts X c ss tg g (vGms m)
theorem VGt.weak {ss : List Nat} {e : Expr} {te : TG} {t t' : VG} (h : VGt X c ss e te t) (hw : ∀ d env Q, t' d env Q → t d env Q) : VGt X c ss e te t' :=
  ⟨h.pg, fun f Hb env σ H d v Q Q' R r q k => h.sim f Hb env σ H d v Q Q' R r (hw _ _ _ q) k⟩
theorem VGts.weak {ss : List Nat} {e : List Expr} {te : TGs} {t t' : VGs} (h : VGts X c ss e te t) (hw : ∀ d env Q, t' d env Q → t d env Q) : VGts X c ss e te t' :=
  ⟨h.pg, fun f Hb env σ H d v Q Q' R r q k => h.sim f Hb env σ H d v Q Q' R r (hw _ _ _ q) k⟩
@[simp] def gmName (i : Nat) (d : D) (e : Env) : Option Env := some (e.set i (some (.val d)))
theorem fg_name {x : Str} {pos : Pos} (i : Nat) (nd : X.N.Nodup) (hx : i ∉ c.fx := by (dsimp only; decide)) (hi : X.N[i]? = some x := by rfl) (hl : L2.Loc X.env.scope x := by first | exact Or.inl rfl | exact Or.inr rfl) (hf : X.fn x = true ∨ X.env.scope.names.lookup x = some .local := by first | exact .inl rfl | exact .inr rfl) : FG X c [i] (.Name x pos) (gName i) (gmName i) :=
  (vg_name i nd hi hl hf).weak fun d env Q h => ⟨hx, h⟩
def gmNil : GMs
  | [], e => some e
  | _ :: _, _ => none
@[simp] theorem gmNil_c1  (e) : gmNil [] e = some e := rfl
def gmC1 (u : GMs) (r : List D) : Option Env → Option Env
  | some e => u r e
  | none => none
@[simp] theorem gmC1_c1 (u : GMs) (r : List D) (e) : gmC1 u r (some e) = u r e := rfl
@[simp] theorem gmC1_c2 (u : GMs) (r : List D) : gmC1 u r none = none := rfl
def gmCons (g : GM) (u : GMs) : GMs
  | d :: r, e => gmC1 u r (g d e)
  | [], _ => none
@[simp] theorem gmCons_c1 (g : GM) (u : GMs) (d r e) : gmCons g u (d :: r) e = gmC1 u r (g d e) := rfl
theorem fgs_nil : FGs X c [] [] gNil gmNil := vgs_nil.weak fun d env Q h => by
  cases d with
  | nil => exact ⟨rfl, h⟩
  | cons a b => exact False.elim h
theorem fgs_cons {e : Expr} {es : List Expr} {g : TG} {u : TGs} {vg : GM} {vu : GMs} {s1 s2 : List Nat} (h : FG X c s1 e g vg) (r : FGs X c s2 es u vu) (hs : (assignEach (e :: es) X.env).map (·.2) = assign e X.env :: (assignEach es X.env).map (·.2) := by rfl) : FGs X c (s1 ++ s2) (e :: es) (gCons g u) (gmCons vg vu) := (vgs_cons h r hs).weak fun d env Q q => by
  cases d with
  | nil => exact False.elim q
  | cons a b =>
    have q : poO Q (gmC1 vu b (vg a env)) := q
    show poO _ (vg a env)
    cases hA : vg a env with
    | none => rw [hA] at q; exact q
    | some e => rw [hA] at q; exact q
def gmTup (n : Nat) (u : GMs) : GM
  | .tup ds, e => if ds.length = n then u ds e else none
  | _, _ => none
@[simp] theorem gmTup_c1 (n : Nat) (u : GMs) (ds e) : gmTup n u (.tup ds) e = if ds.length = n then u ds e else none := rfl
theorem fg_tup {es : List Expr} {x1 n : Nat} {pos : Pos} {u : TGs} {vu : GMs} {ss : List Nat} (h : FGs X c ss es u vu) (hc : X.calm = true := by rfl) (hn : (assignEach es X.env).length = n := by rfl) (hst : (assignEach es X.env).findIdx? (·.1) = none := by rfl) : FG X c ss (.Tuple es x1 pos) (gTup X.K n u) (gmTup n vu) := (vg_tup h hc hn hst).weak fun d env Q q => by
  cases d with
  | tup ds =>
    have q : poO Q (if ds.length = n then vu ds env else none) := q
    show ds.length = n ∧ poO Q (vu ds env)
    by_cases hz : ds.length = n
    · rw [if_pos hz] at q; exact ⟨hz, q⟩
    · rw [if_neg hz] at q; exact q.elim
  | _ => exact False.elim q
def gmS3 (j : Nat) (i : Int) (d : D) (e : Env) : Option (Option M) → Option Env
  | some (some (.own (.lst ds))) => (ixN ds.length i).map fun n => e.set j (some (.own (.lst (ds.set n d))))
  | _ => none
@[simp] theorem gmS3_c1 (j : Nat) (i : Int) (d : D) (e : Env) (ds) : gmS3 j i d e (some (some (.own (.lst ds)))) = (ixN ds.length i).map fun n => e.set j (some (.own (.lst (ds.set n d)))) := rfl
def gmS2 (j : Nat) (d : D) : R Env W → Option Env
  | .ok (.val (.int i)) e => gmS3 j i d e e[j]?
  | _ => none
@[simp] theorem gmS2_c1 (j : Nat) (d : D) (i e) : gmS2 j d (.ok (.val (.int i)) e) = gmS3 j i d e e[j]? := rfl
def gmS1 (i : ME) (d : D) : R Env W → Option Env
  | .ok (.cel j) e => gmS2 j d (i e)
  | _ => none
@[simp] theorem gmS1_c1 (i : ME) (d : D) (j e) : gmS1 i d (.ok (.cel j) e) = gmS2 j d (i e) := rfl
@[simp] def gmSub (o i : ME) : GM := fun d e => gmS1 i d (o e)
theorem fg_sub {o i : Expr} {to ti : TE} {mo mi : ME} {pos : Pos} (ho : FE X c W0 o to mo) (hi : FE X c W0 i ti mi)
    (ha : ∀ v, assign (.Subscript o i pos) X.env v = (do
      let ov ← holding [v] (eval o X.env)
      let iv ← holding [v, ov] (eval i X.env)
      standAt pos
      holding [v, ov, iv] (setItem ov iv v)
      release [v, ov, iv] []) := by intro _; rfl) : FG X c [] (.Subscript o i pos) (gSub to ti rSetL) (gmSub mo mi) := (vg_sub (Wx := W0) ho hi ha).weak fun d env Q q => by
  have q : poO Q (gmS1 mi d (mo env)) := q
  show (mo env).po _ _
  cases hA : mo env with
  | ex C fs s => rw [hA] at q; exact q
  | no => rw [hA] at q; exact q
  | ok w e =>
    rw [hA] at q
    cases w with
    | val d => exact q.elim
    | tmp oc => exact q.elim
    | cel j =>
      have q : poO Q (gmS2 j d (mi e)) := q
      show (mi e).po _ _
      cases hB : mi e with
      | ex C fs s => rw [hB] at q; exact q
      | no => rw [hB] at q; exact q
      | ok w2 e2 =>
        rw [hB] at q
        cases w2 with
        | tmp oc => exact q.elim
        | cel j => exact q.elim
        | val d2 =>
          cases d2 with
          | int i =>
            have q : poO Q (gmS3 j i d e2 e2[j]?) := q
            show match e2[j]? with | some (some (.own (.lst ds))) => _ | _ => False
            generalize e2[j]? = o2 at q
            rcases o2 with _ | _ | d' | ⟨⟩ | oc
            · exact q.elim
            · exact q.elim
            · exact q.elim
            · rename_i ds
              simp only [gmS3] at q
              cases h1 : ixN ds.length i with
              | none => rw [h1] at q; exact q.elim
              | some n => rw [h1] at q; exact ⟨n, h1, q⟩
            · exact q.elim
          | _ => exact q.elim
end
end
end VL
set_option Elab.async false
set_option linter.all false
set_option maxRecDepth 100000
set_option maxHeartbeats 4000000
namespace VL
noncomputable section
open PySem PySem.Spec PyProof.Rows L2
variable [CM]
section
variable {K : PySem.W.Frag} {c : VC} {Wx : WX} {X : Cx}
def set1 (i : Nat) : R Env D → SR
  | .ok d e => .nx (e.set i (some (.val d)))
  | .ex C fs s => .ex C fs s
  | .no => .no
@[simp] theorem set1_c1 (i : Nat) (d e) : set1 i (.ok d e) = .nx (e.set i (some (.val d))) := rfl
@[simp] theorem set1_c2 (i : Nat) (C fs s) : set1 i (.ex C fs s) = .ex C fs s := rfl
@[simp] theorem set1_c3 (i : Nat) : set1 i .no = .no := rfl
@[simp] def mSet (i : Nat) (m : ME) (e : Env) : SR := set1 i (bd fzM (m e))
theorem po_set1 {i : Nat} {m : ME} {env : Env} {DV : VEnds} (hx : i ∉ c.fx) (h : (mSet i m env).po DV) : vSet c i (vR m) DV env := by
  have h : (set1 i (bd fzM (m env))).po DV := h
  show (m env).po _ DV.ex
  cases hA : m env with
  | ex C fs s => rw [hA] at h; exact h
  | no => rw [hA] at h; exact h
  | ok w e =>
    rw [hA] at h
    have h : (set1 i (fzM w e)).po DV := h
    refine ⟨hx, po_fz (QX := DV.ex) ?_⟩
    cases hB : fzM w e with
    | ex C fs s => rw [hB] at h; exact h
    | no => rw [hB] at h; exact h
    | ok d e2 => rw [hB] at h; exact h
theorem fst_set {x : Str} {e : Expr} {te : TE} {m : ME} {pos pos' : Pos} (i : Nat) (nd : X.N.Nodup) (he : FE X c Wx e te m) (hx : i ∉ c.fx := by (dsimp only; decide)) (hi : X.N[i]? = some x := by rfl) (hl : L2.Loc X.env.scope x := by first | exact Or.inl rfl | exact Or.inr rfl) (hs : swapsWith e (some (.Name x pos')) pos.line X.env = pure false := by rfl) (hf : X.fn x = true ∨ X.env.scope.names.lookup x = some .local := by first | exact .inl rfl | exact .inr rfl) :
    FSt X c Wx (.Assign [.Name x pos'] e pos) (tAsg te (gName i)) (mSet i m) := (vst_set i nd he hi hl hs hf).weak fun DV env h => po_set1 hx h
def own1 (i : Nat) : R Env W → SR
  | .ok (.tmp oc) e => .nx (e.set i (some (.own oc)))
  | .ok (.val d) e => .nx (e.set i (some (.val d)))
  | .ex C fs s => .ex C fs s
  | _ => .no
@[simp] theorem own1_c1 (i : Nat) (oc e) : own1 i (.ok (.tmp oc) e) = .nx (e.set i (some (.own oc))) := rfl
@[simp] theorem own1_c2 (i : Nat) (d e) : own1 i (.ok (.val d) e) = .nx (e.set i (some (.val d))) := rfl
@[simp] theorem own1_c3 (i : Nat) (C fs s) : own1 i (.ex C fs s) = .ex C fs s := rfl
@[simp] def mOwn (i : Nat) (m : ME) (e : Env) : SR := own1 i (m e)
theorem po_own1 {i : Nat} {m : ME} {env : Env} {DV : VEnds} (hx : i ∉ c.fx) (h : (mOwn i m env).po DV) : vOwn c i (vR m) DV env := by
  have h : (own1 i (m env)).po DV := h
  show (m env).po _ DV.ex
  cases hA : m env with
  | ex C fs s => rw [hA] at h; exact h
  | no => rw [hA] at h; exact h
  | ok w e =>
    rw [hA] at h
    cases w with
    | val d => exact ⟨hx, h⟩
    | tmp oc => exact ⟨hx, h⟩
    | cel j => exact h.elim
theorem fst_own {x : Str} {e : Expr} {te : TE} {m : ME} {pos pos' : Pos} (i : Nat) (nd : X.N.Nodup) (he : FE X c Wx e te m) (hx : i ∉ c.fx := by (dsimp only; decide)) (hi : X.N[i]? = some x := by rfl) (hl : L2.Loc X.env.scope x := by first | exact Or.inl rfl | exact Or.inr rfl) (hs : swapsWith e (some (.Name x pos')) pos.line X.env = pure false := by rfl) (hf : X.fn x = true ∨ X.env.scope.names.lookup x = some .local := by first | exact .inl rfl | exact .inr rfl) :
    FSt X c Wx (.Assign [.Name x pos'] e pos) (tAsg te (gName i)) (mOwn i m) := (vst_own i nd he hi hl hs hf).weak fun DV env h => po_own1 hx h
def asg2 : Option Env → SR
  | some e => .nx e
  | none => .no
@[simp] theorem asg2_c1  (e) : asg2 (some e) = .nx e := rfl
@[simp] theorem asg2_c2  : asg2 none = .no := rfl
def asg1 (g : GM) : R Env D → SR
  | .ok d e => asg2 (g d e)
  | .ex C fs s => .ex C fs s
  | .no => .no
@[simp] theorem asg1_c1 (g : GM) (d e) : asg1 g (.ok d e) = asg2 (g d e) := rfl
@[simp] theorem asg1_c2 (g : GM) (C fs s) : asg1 g (.ex C fs s) = .ex C fs s := rfl
@[simp] theorem asg1_c3 (g : GM) : asg1 g .no = .no := rfl
@[simp] def mAsg (m : ME) (g : GM) (e : Env) : SR := asg1 g (bd fzM (m e))
theorem fst_asg {tg e : Expr} {te : TE} {m : ME} {g : TG} {vg : GM} {pos : Pos} {ss : List Nat} (he : FE X c Wx e te m) (hg : FG X c ss tg g vg) (hs : swapsWithSole [tg] e pos.line X.env = pure false := by rfl) (hw : swappedStores [tg] e X.env = pure none := by rfl)
    (h1 : (assignEach [tg] X.env).map (·.2) = [assign tg X.env] := by rfl) : FSt X c Wx (.Assign [tg] e pos) (tAsg te g) (mAsg m vg) := (vst_asg he hg hs hw h1).weak fun DV env h => by
  have h : (asg1 vg (bd fzM (m env))).po DV := h
  show (m env).po _ DV.ex
  cases hA : m env with
  | ex C fs s => rw [hA] at h; exact h
  | no => rw [hA] at h; exact h
  | ok w e =>
    rw [hA] at h
    have h : (asg1 vg (fzM w e)).po DV := h
    show fz w e fun d env2 => vGm vg d env2 DV.nx
    refine po_fz (QX := DV.ex) ?_
    cases hB : fzM w e with
    | ex C fs s => rw [hB] at h; exact h
    | no => rw [hB] at h; exact h
    | ok d e2 =>
      rw [hB] at h
      have h : (asg2 (vg d e2)).po DV := h
      show poO _ (vg d e2)
      cases hC : vg d e2 with
      | none => rw [hC] at h; exact h
      | some e3 => rw [hC] at h; exact h
def par1 (i j : Nat) : R Env (List D) → SR
  | .ok [a, b] e => .nx ((e.set i (some (.val a))).set j (some (.val b)))
  | .ex C fs s => .ex C fs s
  | _ => .no
@[simp] theorem par1_c1 (i j : Nat) (a b e) : par1 i j (.ok [a, b] e) = .nx ((e.set i (some (.val a))).set j (some (.val b))) := rfl
@[simp] theorem par1_c2 (i j : Nat) (C fs s) : par1 i j (.ex C fs s) = .ex C fs s := rfl
@[simp] def mPar (i j : Nat) (t : MA) (e : Env) : SR := par1 i j (bd fzsM (t e))
def exp1 : R Env W → SR
  | .ok _ e => .nx e
  | .ex C fs s => .ex C fs s
  | .no => .no
@[simp] theorem exp1_c1  (x1 e) : exp1 (.ok x1 e) = .nx e := rfl
@[simp] theorem exp1_c2  (C fs s) : exp1 (.ex C fs s) = .ex C fs s := rfl
@[simp] theorem exp1_c3  : exp1 .no = .no := rfl
@[simp] def mExpr (m : ME) (e : Env) : SR := exp1 (m e)
theorem fst_expr {e : Expr} {te : TE} {m : ME} {pos : Pos} (he : FE X c Wx e te m) (hs : swapsWith e none pos.line X.env = pure false := by rfl) : FSt X c Wx (.Expr e pos) (tDrop te) (mExpr m) := (vst_expr he hs).weak fun DV env h => by
  have h : (exp1 (m env)).po DV := h
  show (m env).po _ DV.ex
  cases hA : m env <;> rw [hA] at h <;> exact h
@[simp] def mBrk (e : Env) : SR := .bk e
@[simp] def mCnt (e : Env) : SR := .ct e
def ret2 (i : Nat) (e : Env) : Bool → Option (Option M) → SR
  | true, some (some (.own oc)) => .rt (.tmp oc) (e.set i none)
  | _, _ => .no
@[simp] theorem ret2_c1 (i : Nat) (e : Env) (oc) : ret2 i e true (some (some (.own oc))) = .rt (.tmp oc) (e.set i none) := rfl
def ret1 (fx : List Nat) : R Env W → SR
  | .ok (.val d) e => .rt (.val d) e
  | .ok (.tmp oc) e => .rt (.tmp oc) e
  | .ok (.cel i) e => ret2 i e (!fx.contains i) e[i]?
  | .ex C fs s => .ex C fs s
  | .no => .no
@[simp] theorem ret1_c1 (fx : List Nat) (d e) : ret1 fx (.ok (.val d) e) = .rt (.val d) e := rfl
@[simp] theorem ret1_c2 (fx : List Nat) (oc e) : ret1 fx (.ok (.tmp oc) e) = .rt (.tmp oc) e := rfl
@[simp] theorem ret1_c3 (fx : List Nat) (i e) : ret1 fx (.ok (.cel i) e) = ret2 i e (!fx.contains i) e[i]? := rfl
@[simp] theorem ret1_c4 (fx : List Nat) (C fs s) : ret1 fx (.ex C fs s) = .ex C fs s := rfl
@[simp] theorem ret1_c5 (fx : List Nat) : ret1 fx .no = .no := rfl
@[simp] def mRet (fx : List Nat) (m : ME) (e : Env) : SR := ret1 fx (m e)
theorem fst_ret {e : Expr} {te : TE} {m : ME} {pos : Pos} (he : FE X c Wx e te m) : FSt X c Wx (.Return (some e) pos) (tRet te) (mRet c.fx m) := (vst_ret he).weak fun DV env h => by
  have h : (ret1 c.fx (m env)).po DV := h
  show (m env).po _ DV.ex
  cases hA : m env with
  | ex C fs s => rw [hA] at h; exact h
  | no => rw [hA] at h; exact h
  | ok w e =>
    rw [hA] at h
    cases w with
    | val d => exact h
    | tmp d => exact h
    | cel i =>
      have h : (ret2 i e (!c.fx.contains i) e[i]?).po DV := h
      cases hx : c.fx.contains i with
      | true => rw [hx] at h; exact h.elim
      | false =>
        rw [hx] at h
        refine ⟨fun z => ?_, ?_⟩
        · rw [List.contains_eq_mem, decide_eq_false_iff_not] at hx; exact hx z
        · generalize e[i]? = o at h
          rcases o with _ | _ | d | oc
          · exact h.elim
          · exact h.elim
          · exact h.elim
          · exact h
@[simp] def mRetN (e : Env) : SR := .rt (.val .non) e
def ifS (a b : MS) : R Env Bool → SR
  | .ok true e => a e
  | .ok false e => b e
  | .ex C fs s => .ex C fs s
  | .no => .no
@[simp] theorem ifS_c1 (a b : MS) (e) : ifS a b (.ok true e) = a e := rfl
@[simp] theorem ifS_c2 (a b : MS) (e) : ifS a b (.ok false e) = b e := rfl
@[simp] theorem ifS_c3 (a b : MS) (C fs s) : ifS a b (.ex C fs s) = .ex C fs s := rfl
@[simp] theorem ifS_c4 (a b : MS) : ifS a b .no = .no := rfl
@[simp] def mIfS (t : MT) (a b : MS) (e : Env) : SR := ifS a b (t e)
theorem fst_if {t : Expr} {a b : List Stmt} {tt : TT} {ta tb : TS} {mt : MT} {ma mb : MS} {pos : Pos} (ht : FTe X c Wx t tt mt) (ha : FSs X c Wx a ta ma) (hb : FSs X c Wx b tb mb) : FSt X c Wx (.If t a b pos) (tIfS tt ta tb) (mIfS mt ma mb) := (vst_if ht ha hb).weak fun DV env h => by
  have h : (ifS ma mb (mt env)).po DV := h
  show (mt env).po _ DV.ex
  cases hA : mt env with
  | ex C fs s => rw [hA] at h; exact h
  | no => rw [hA] at h; exact h
  | ok k e => rw [hA] at h; cases k <;> exact h
def trn (rec : MS) : SR → SR
  | .nx e => rec e
  | .ct e => rec e
  | .bk e => .nx e
  | .rt w e => .rt w e
  | .ex C fs e => .ex C fs e
  | .no => .no
@[simp] theorem trn_c1 (rec : MS) (e) : trn rec (.nx e) = rec e := rfl
@[simp] theorem trn_c2 (rec : MS) (e) : trn rec (.ct e) = rec e := rfl
@[simp] theorem trn_c3 (rec : MS) (e) : trn rec (.bk e) = .nx e := rfl
@[simp] theorem trn_c4 (rec : MS) (w e) : trn rec (.rt w e) = .rt w e := rfl
@[simp] theorem trn_c5 (rec : MS) (C fs e) : trn rec (.ex C fs e) = .ex C fs e := rfl
@[simp] theorem trn_c6 (rec : MS) : trn rec .no = .no := rfl
def whK (rec : MS) (b : MS) : R Env Bool → SR
  | .ok true e => trn rec (b e)
  | .ok false e => .nx e
  | .ex C fs s => .ex C fs s
  | .no => .no
@[simp] theorem whK_c1 (rec : MS) (b : MS) (e) : whK rec b (.ok true e) = trn rec (b e) := rfl
@[simp] theorem whK_c2 (rec : MS) (b : MS) (e) : whK rec b (.ok false e) = .nx e := rfl
@[simp] theorem whK_c3 (rec : MS) (b : MS) (C fs s) : whK rec b (.ex C fs s) = .ex C fs s := rfl
@[simp] theorem whK_c4 (rec : MS) (b : MS) : whK rec b .no = .no := rfl
abbrev FI (X : Cx) (c : VC) (Wx : WX) (tg iter : Expr) (wi : TI) (m : MI) : Prop := VIt X c Wx tg iter wi (vR m)
def trnG (b : MS) : Option Env → SR
  | some e => b e
  | none => .no
@[simp] theorem trnG_c1 (b : MS) (e) : trnG b (some e) = b e := rfl
@[simp] theorem trnG_c2 (b : MS) : trnG b none = .no := rfl
@[simp] def turnM (g : GM) (b : MS) (d : D) (e : Env) : SR := trnG b (g d e)
def loopM (g : GM) (b : MS) : List D → Env → SR
  | [], e => .nx e
  | d :: ds, e => trn (loopM g b ds) (turnM g b d e)
def for1 (g : GM) (b : MS) : R Env (List D) → SR
  | .ok ds e => loopM g b ds e
  | .ex C fs s => .ex C fs s
  | .no => .no
@[simp] theorem for1_c1 (g : GM) (b : MS) (ds e) : for1 g b (.ok ds e) = loopM g b ds e := rfl
@[simp] theorem for1_c2 (g : GM) (b : MS) (C fs s) : for1 g b (.ex C fs s) = .ex C fs s := rfl
@[simp] theorem for1_c3 (g : GM) (b : MS) : for1 g b .no = .no := rfl
@[simp] def mFor (i : MI) (g : GM) (b : MS) (e : Env) : SR := for1 g b (i e)
theorem po_loop {g : GM} {b : MS} {DV : VEnds} : ∀ {ds : List D} {e : Env}, (loopM g b ds e).po DV → loopF (vGm g) (vS b) DV ds e
  | [], e, h => h
  | d :: ds, e, h => by
    have h : (trn (loopM g b ds) (trnG b (g d e))).po DV := h
    show poO _ (g d e)
    cases hA : g d e with
    | none => rw [hA] at h; exact h
    | some e1 =>
      rw [hA] at h
      have h : (trn (loopM g b ds) (b e1)).po DV := h
      show (b e1).po _
      cases hB : b e1 with
      | nx e2 => rw [hB] at h; exact po_loop h
      | ct e2 => rw [hB] at h; exact po_loop h
      | bk e2 => rw [hB] at h; exact h
      | rt w e2 => rw [hB] at h; exact h
      | ex C fs e2 => rw [hB] at h; exact h
      | no => rw [hB] at h; exact h
theorem fst_for {tg iter : Expr} {b : List Stmt} {wi : TI} {g : TG} {tb : TS} {vi : MI} {vg : GM} {vb : MS} {pos : Pos} (hp : PassesOwn (model X.prog X.w) X.A X.env X.xe) {ss : List Nat} (hi : FI X c Wx tg iter wi vi) (hg : FG X c ss tg g vg) (hb : FSs X c Wx b tb vb) (hc : X.calm = true := by rfl)
    (hs : ∀ x, foldedSetIterable iter X.env x = pure x := by intro _; rfl) : FSt X c Wx (.For tg iter b [] pos) (tFor wi g tb) (mFor vi vg vb) := (vst_for hp hi hg hb hc hs).weak fun DV env h => by
  have h : (for1 vg vb (vi env)).po DV := h
  show (vi env).po _ DV.ex
  cases hA : vi env with
  | ex C fs s => rw [hA] at h; exact h
  | no => rw [hA] at h; exact h
  | ok ds e => rw [hA] at h; exact po_loop h
def seqD : D → Option (List D)
  | .lst ds => some ds
  | .tup ds => some ds
  | .str z => some (z.cps.toList.map fun n => .str ⟨#[n]⟩)
  | _ => none
@[simp] theorem seqD_c1  (ds) : seqD (.lst ds) = some ds := rfl
@[simp] theorem seqD_c2  (ds) : seqD (.tup ds) = some ds := rfl
@[simp] theorem seqD_c3  (z) : seqD (.str z) = some (z.cps.toList.map fun n => .str ⟨#[n]⟩) := rfl
def itR (e : Env) : Option (List D) → R Env (List D)
  | some ds => .ok ds e
  | none => .no
@[simp] theorem itR_c1 (e : Env) (ds) : itR e (some ds) = .ok ds e := rfl
@[simp] theorem itR_c2 (e : Env) : itR e none = .no := rfl
def itK (f : D → Option (List D)) : R Env D → R Env (List D)
  | .ok d e => itR e (f d)
  | .ex C fs s => .ex C fs s
  | .no => .no
@[simp] theorem itK_c1 (f : D → Option (List D)) (d e) : itK f (.ok d e) = itR e (f d) := rfl
@[simp] theorem itK_c2 (f : D → Option (List D)) (C fs s) : itK f (.ex C fs s) = .ex C fs s := rfl
@[simp] theorem itK_c3 (f : D → Option (List D)) : itK f .no = .no := rfl
@[simp] def mIt (m : ME) (e : Env) : R Env (List D) := itK seqD (bd fzM (m e))
def revD : D → Option (List D)
  | .lst ds => some ds.reverse
  | .tup ds => some ds.reverse
  | _ => none
@[simp] theorem revD_c1  (ds) : revD (.lst ds) = some ds.reverse := rfl
@[simp] theorem revD_c2  (ds) : revD (.tup ds) = some ds.reverse := rfl
@[simp] def mRev (m : ME) (e : Env) : R Env (List D) := itK revD (bd fzM (m e))
theorem po_it {f : D → Option (List D)} {w : W} {e : Env} {Q : List D → Env → Prop} {QX : VX} (h : (itK f (fzM w e)).po Q QX) : fz w e fun d e2 => ∃ ds, f d = some ds ∧ Q ds e2 := by
  refine po_fz (QX := QX) ?_
  cases hB : fzM w e with
  | ex C fs s => rw [hB] at h; exact h
  | no => rw [hB] at h; exact h
  | ok d e2 =>
    rw [hB] at h
    have h : (itR e2 (f d)).po Q QX := h
    show ∃ ds, f d = some ds ∧ Q ds e2
    cases hC : f d with
    | none => rw [hC] at h; exact h.elim
    | some ds => rw [hC] at h; exact ⟨ds, rfl, h⟩
theorem fz_mono {w : W} {e : Env} {k k' : D → Env → Prop} (h : fz w e k) (m : ∀ d e, k d e → k' d e) : fz w e k' := by
  cases w with
  | val d => exact m _ _ h
  | tmp oc => exact m _ _ h
  | cel i =>
    rw [fz_cel] at h ⊢
    generalize e[i]? = o at h
    rcases o with _ | _ | d | oc
    · exact h
    · exact h
    · exact m _ _ h
    · exact m _ _ h
theorem fi_seq {tg e : Expr} {te : TE} {m : ME} (h : FE X c Wx e te m) : FI X c Wx tg e (iSeq X.K te) (mIt m) := (vi_seq h).weak fun env Q QX h => by
  have h : (itK seqD (bd fzM (m env))).po Q QX := h
  show (m env).po _ QX
  cases hA : m env with
  | ex C fs s => rw [hA] at h; exact h
  | no => rw [hA] at h; exact h
  | ok w e =>
    rw [hA] at h
    show fz w e fun d env2 => seqItems d fun ds => Q ds env2
    refine fz_mono (po_it h) fun d e2 ⟨ds, h1, h2⟩ => ?_
    cases d <;> first
      | (cases h1; exact h2)
      | cases h1
noncomputable def rng1 (j : Int) : Option (List D) := cif (-(2 ^ 62) ≤ j ∧ j < 2 ^ 62) (some ((List.range j.toNat).map fun k => .int (k : Nat))) none
@[simp] theorem rng1_of {j : Int} (h : -4611686018427387904 ≤ j ∧ j < 4611686018427387904) : rng1 j = some ((List.range j.toNat).map fun k => .int (k : Nat)) := cif_pos h
@[simp] theorem rng1_nat {n : Nat} (h : n < 4611686018427387904) : rng1 (n : Int) = some ((List.range n).map fun k => .int (k : Nat)) := by
  rw [rng1_of (by omega)]; rfl
noncomputable def rng2 (i j : Int) : Option (List D) := cif (-(2 ^ 62) ≤ i ∧ i < 2 ^ 62 ∧ -(2 ^ 62) ≤ j ∧ j < 2 ^ 62) (some ((List.range (j - i).toNat).map fun k => .int (i + (k : Nat)))) none
@[simp] theorem rng2_of {i j : Int} (h : -4611686018427387904 ≤ i ∧ i < 4611686018427387904 ∧ -4611686018427387904 ≤ j ∧ j < 4611686018427387904) : rng2 i j = some ((List.range (j - i).toNat).map fun k => .int (i + (k : Nat))) := cif_pos h
noncomputable def rngK : R Env (List W) → R Env (List D)
  | .ok [.val (.int j)] e => itR e (rng1 j)
  | .ok [.val (.int i), .val (.int j)] e => itR e (rng2 i j)
  | .ex C fs s => .ex C fs s
  | _ => .no
@[simp] theorem rngK_c1  (j e) : rngK (.ok [.val (.int j)] e) = itR e (rng1 j) := rfl
@[simp] theorem rngK_c2  (i j e) : rngK (.ok [.val (.int i), .val (.int j)] e) = itR e (rng2 i j) := rfl
@[simp] theorem rngK_c3  (C fs s) : rngK (.ex C fs s) = .ex C fs s := rfl
@[simp] noncomputable def mRng (t : MA) (e : Env) : R Env (List D) := rngK (t e)
theorem fi_range1 {tg a : Expr} {ta : TE} {m : ME} {p pos : Pos} (hm : X.mg "range" = none) (ha : FE X c Wx a ta m) (hg : Gl X "range" := by rfl) (hs : starEach [a] X.env = [(false, eval a X.env)] := by rfl) : FI X c Wx tg (.Call (.Name "range" p) [a] [] pos) (iRng1 (tCons ta tNil)) (mRng (mCons m mNil)) := (vi_range1 hm (fa_cons ha fa_nil hs) hg hs).weak fun env Q QX h => by
  have h : (rngK (sq mNil (fun w ws => fzv w :: ws) (m env))).po Q QX := h
  show (sq mNil (fun w ws => fzv w :: ws) (m env)).po _ QX
  cases hA : m env with
  | ex C fs s => rw [hA] at h; exact h
  | no => rw [hA] at h; exact h
  | ok w e =>
    rw [hA] at h
    have h : (rngK (.ok [fzv w] e)).po Q QX := h
    show match [fzv w] with | [.val (.int j)] => _ | _ => False
    rcases hw : fzv w with d | i | oc
    · rw [hw] at h
      cases d with
      | int j =>
        have h : (itR e (rng1 j)).po Q QX := h
        unfold rng1 at h
        by_cases z : -(2 ^ 62) ≤ j ∧ j < 2 ^ 62
        · rw [cif_pos z] at h; exact ⟨z, h⟩
        · rw [cif_neg z] at h; exact h.elim
      | _ => exact h.elim
    · rw [hw] at h; exact h.elim
    · rw [hw] at h; exact h.elim
def elK (vs : List Nat) : R Env D → R Env (Option D)
  | .ok d e => .ok (some d) (wipeE e vs)
  | .ex C fs s => .ex C fs s
  | .no => .no
@[simp] theorem elK_c1 (vs : List Nat) (d e) : elK vs (.ok d e) = .ok (some d) (wipeE e vs) := rfl
@[simp] theorem elK_c2 (vs : List Nat) (C fs s) : elK vs (.ex C fs s) = .ex C fs s := rfl
@[simp] theorem elK_c3 (vs : List Nat) : elK vs .no = .no := rfl
def ifC (el : ME) (vs : List Nat) : R Env Bool → R Env (Option D)
  | .ok true e => elK vs (bd fzM (el e))
  | .ok false e => .ok none (wipeE e vs)
  | .ex C fs s => .ex C fs s
  | .no => .no
@[simp] theorem ifC_c1 (el : ME) (vs : List Nat) (e) : ifC el vs (.ok true e) = elK vs (bd fzM (el e)) := rfl
@[simp] theorem ifC_c2 (el : ME) (vs : List Nat) (e) : ifC el vs (.ok false e) = .ok none (wipeE e vs) := rfl
@[simp] theorem ifC_c3 (el : ME) (vs : List Nat) (C fs s) : ifC el vs (.ex C fs s) = .ex C fs s := rfl
@[simp] theorem ifC_c4 (el : ME) (vs : List Nat) : ifC el vs .no = .no := rfl
def turnC1 (t : MT) (el : ME) (vs : List Nat) : Option Env → R Env (Option D)
  | some e => ifC el vs (t e)
  | none => .no
@[simp] theorem turnC1_c1 (t : MT) (el : ME) (vs : List Nat) (e) : turnC1 t el vs (some e) = ifC el vs (t e) := rfl
@[simp] theorem turnC1_c2 (t : MT) (el : ME) (vs : List Nat) : turnC1 t el vs none = .no := rfl
@[simp] def turnC (g : GM) (t : MT) (el : ME) (vs : List Nat) (d : D) (e : Env) : R Env (Option D) := turnC1 t el vs (g d e)
def consO : Option D → List D → List D
  | some d, ds => d :: ds
  | none, ds => ds
@[simp] theorem consO_c1 (d : D) (ds : List D) : consO (some d) ds = d :: ds := rfl
@[simp] theorem consO_c2 (ds : List D) : consO none ds = ds := rfl
def compM (g : GM) (t : MT) (el : ME) (vs : List Nat) : List D → Env → R Env (List D)
  | [], e => .ok [] e
  | d :: ds, e => sq (compM g t el vs ds) consO (turnC g t el vs d e)
@[simp] def okE (fx : List Nat) : List Nat → Env → Bool
  | [], _ => true
  | v :: vs, e => !fx.contains v && (match e[v]? with
    | some (some (.own _)) => false
    | _ => true) && okE fx vs e
noncomputable def lc3 (e0 : Env) (vs : List Nat) : R Env (List D) → R Env W
  | .ok ds e => opR (restE e0 e vs) (lim ds.length (.tmp (.lst ds)))
  | _ => .no
@[simp] theorem lc3_c1 (e0 : Env) (vs : List Nat) (ds e) : lc3 e0 vs (.ok ds e) = opR (restE e0 e vs) (lim ds.length (.tmp (.lst ds))) := rfl
noncomputable def lc2 (e0 : Env) (vs : List Nat) (r : R Env (List D)) : Bool → R Env W
  | true => lc3 e0 vs r
  | false => .no
@[simp] theorem lc2_c1 (e0 : Env) (vs : List Nat) (r : R Env (List D)) : lc2 e0 vs r true = lc3 e0 vs r := rfl
@[simp] theorem lc2_c2 (e0 : Env) (vs : List Nat) (r : R Env (List D)) : lc2 e0 vs r false = .no := rfl
noncomputable def lc1 (fx : List Nat) (g : GM) (t : MT) (el : ME) (vs : List Nat) : R Env (List D) → R Env W
  | .ok ds e => lc2 e vs (compM g t el vs ds (wipeE e vs)) (okE fx vs e)
  | .ex C fs s => .ex C fs s
  | .no => .no
@[simp] theorem lc1_c1 (fx : List Nat) (g : GM) (t : MT) (el : ME) (vs : List Nat) (ds e) : lc1 fx g t el vs (.ok ds e) = lc2 e vs (compM g t el vs ds (wipeE e vs)) (okE fx vs e) := rfl
@[simp] theorem lc1_c2 (fx : List Nat) (g : GM) (t : MT) (el : ME) (vs : List Nat) (C fs s) : lc1 fx g t el vs (.ex C fs s) = .ex C fs s := rfl
@[simp] theorem lc1_c3 (fx : List Nat) (g : GM) (t : MT) (el : ME) (vs : List Nat) : lc1 fx g t el vs .no = .no := rfl
@[simp] noncomputable def mLc (fx : List Nat) (it : MI) (g : GM) (t : MT) (el : ME) (vs : List Nat) (e : Env) : R Env W := lc1 fx g t el vs (it e)
theorem okE_of {fx : List Nat} : ∀ {vs : List Nat} {e : Env}, okE fx vs e = true → ∀ v ∈ vs, v ∉ fx ∧ ∀ oc, e[v]? ≠ some (some (.own oc))
  | [], e, h, v, hv => by cases hv
  | x :: vs, e, h, v, hv => by
    simp only [okE, Bool.and_eq_true] at h
    rcases List.mem_cons.mp hv with rfl | hv
    · refine ⟨fun z => ?_, fun oc z => ?_⟩
      · have := h.1.1
        simp [z] at this
      · have := h.1.2
        rw [z] at this; cases this
    · exact okE_of h.2 v hv
theorem po_comp {g : GM} {t : MT} {el : ME} {vs : List Nat} {Q : List D → Env → Prop} : ∀ {ds : List D} {e : Env} {acc : List D} {QX : VX}, (compM g t el vs ds e).po (fun r e2 => acc.length + r.length ≤ sizeLine ∧ Q (acc ++ r) e2) noX → compF (vGm g) (vR t) (vR el) vs Q ds acc e
  | [], e, acc, QX, h => by
    have h : acc.length + 0 ≤ sizeLine ∧ Q (acc ++ []) e := h
    rw [List.append_nil] at h
    exact h.2
  | d :: ds, e, acc, QX, h => by
    have h : (sq (compM g t el vs ds) consO (turnC1 t el vs (g d e))).po (fun r e2 => acc.length + r.length ≤ sizeLine ∧ Q (acc ++ r) e2) noX := h
    show poO _ (g d e)
    cases hA : g d e with
    | none => rw [hA] at h; exact h
    | some e1 =>
      rw [hA] at h
      have h : (sq (compM g t el vs ds) consO (ifC el vs (t e1))).po (fun r e2 => acc.length + r.length ≤ sizeLine ∧ Q (acc ++ r) e2) noX := h
      show (t e1).po _ noX
      cases hB : t e1 with
      | ex C fs s => rw [hB] at h; exact h
      | no => rw [hB] at h; exact h
      | ok b e2 =>
        rw [hB] at h
        cases b with
        | false =>
          have h := po_mp (g := consO none) (r := compM g t el vs ds (wipeE e2 vs)) h
          exact po_comp (QX := noX) h
        | true =>
          have h : (sq (compM g t el vs ds) consO (elK vs (bd fzM (el e2)))).po (fun r e2 => acc.length + r.length ≤ sizeLine ∧ Q (acc ++ r) e2) noX := h
          show (el e2).po _ noX
          cases hC : el e2 with
          | ex C fs s => rw [hC] at h; exact h
          | no => rw [hC] at h; exact h
          | ok w e3 =>
            rw [hC] at h
            have h : (sq (compM g t el vs ds) consO (elK vs (fzM w e3))).po (fun r e2 => acc.length + r.length ≤ sizeLine ∧ Q (acc ++ r) e2) noX := h
            show fz w e3 fun d' env4 => acc.length < sizeLine ∧ compF (vGm g) (vR t) (vR el) vs Q ds (acc ++ [d']) (wipeE env4 vs)
            refine po_fz (QX := noX) ?_
            cases hD : fzM w e3 with
            | ex C fs s => rw [hD] at h; exact h
            | no => rw [hD] at h; exact h
            | ok d' e4 =>
              rw [hD] at h
              have h := po_mp (g := consO (some d')) (r := compM g t el vs ds (wipeE e4 vs)) h
              have key : ∀ r e2, (acc.length + (consO (some d') r).length ≤ sizeLine ∧ Q (acc ++ consO (some d') r) e2) → ((acc ++ [d']).length + r.length ≤ sizeLine ∧ Q ((acc ++ [d']) ++ r) e2) := fun r e2 ⟨h1, h2⟩ => by
                have h1 : acc.length + (d' :: r).length ≤ sizeLine := h1
                have h2 : Q (acc ++ (d' :: r)) e2 := h2
                simp only [List.length_cons, List.length_append, List.length_nil] at h1 ⊢
                exact ⟨by omega, by rw [List.append_assoc]; exact h2⟩
              refine ⟨?_, po_comp (QX := noX) (po_mono h key)⟩
              cases hE : compM g t el vs ds (wipeE e4 vs) with
              | ex C fs s => rw [hE] at h; exact False.elim h
              | no => rw [hE] at h; exact False.elim h
              | ok r e5 =>
                rw [hE] at h
                have h1 : acc.length + (d' :: r).length ≤ sizeLine := h.1
                simp only [List.length_cons] at h1
                omega
theorem po_lc {it : MI} {g : GM} {t : MT} {el : ME} {vs : List Nat} {env : Env} {Q : VQ} {QX : VX} (h : vR (mLc c.fx it g t el vs) env Q QX) : vLc c (vR it) (vGm g) (vR t) (vR el) vs env Q QX := by
  have h : (lc1 c.fx g t el vs (it env)).po Q QX := h
  show (it env).po _ QX
  cases hA : it env with
  | ex C fs s => rw [hA] at h; exact h
  | no => rw [hA] at h; exact h
  | ok ds e =>
    rw [hA] at h
    have h : (lc2 e vs (compM g t el vs ds (wipeE e vs)) (okE c.fx vs e)).po Q QX := h
    cases hK : okE c.fx vs e with
    | false => rw [hK] at h; exact h.elim
    | true =>
      rw [hK] at h
      have h : (lc3 e vs (compM g t el vs ds (wipeE e vs))).po Q QX := h
      refine ⟨okE_of hK, po_comp (QX := noX) ?_⟩
      cases hC : compM g t el vs ds (wipeE e vs) with
      | ex C fs s => rw [hC] at h; exact h.elim
      | no => rw [hC] at h; exact h.elim
      | ok r e2 =>
        rw [hC] at h
        have h : (opR (restE e e2 vs) (lim r.length (.tmp (.lst r)))).po Q QX := h
        cases h1 : lim r.length (W.tmp (.lst r)) with
        | none => rw [h1] at h; exact h.elim
        | some w =>
          rw [h1] at h
          obtain ⟨h2, rfl⟩ := lim_some h1
          exact ⟨by simpa using h2, h⟩
abbrev FTs (X : Cx) (c : VC) (Wx : WX) (ifs : List Expr) (tt : TT) (m : MT) : Prop := VTs X c Wx ifs tt (vR m)
@[simp] def mYes (e : Env) : R Env Bool := .ok true e
theorem fts_nil : FTs X c Wx [] tYes mYes := ⟨pts_nil, fun f Hb env σ H Q QX Q' R q px k => k _ _ _ _ (Same.refl _) R q⟩
abbrev FBlk (X : Cx) (c : VC) (scope : Scope) (own : List (Str × Nat)) (ss : List Nat) (tg elt : Expr) (ifs : List Expr) (g : TG) (mg : GM) (tt : TT) (mt : MT) (te : TE) (me : ME) : Prop := Blk X c scope own ss tg elt ifs g (vGm mg) tt (vR mt) te (vR me)
theorem fe_lc {vs : List Nat} {scope : Scope} {own : List (Str × Nat)} {ss : List Nat} {tg elt iter : Expr} {ifs : List Expr} {g : TG} {vg : GM} {tt : TT} {vt : MT} {te : TE} {ve : ME} {wi : TI} {vi : MI} {pos : Pos} (nd : X.N.Nodup) (hi : FI X c Wx tg iter wi vi) (B : FBlk X c scope own ss tg elt ifs g vg tt vt te ve) (hc : X.calm = true := by rfl) (hs : ∀ x, foldedSetIterable iter X.env x = pure x := by intro _; rfl) (hvs : own.map (·.2) = vs := by rfl) :
    FE X c Wx (.ListComp elt [⟨tg, iter, ifs, 0⟩] scope pos) (tLc wi g tt te (own.map (·.2))) (mLc c.fx vi vg vt ve vs) := by
  subst hvs
  exact (ve_lc nd hi B hc hs).weak fun env Q QX h => po_lc h
theorem fst_setLc {vs : List Nat} {y : Str} {py : Pos} {scope : Scope} {own : List (Str × Nat)} {ss : List Nat} {tg elt iter : Expr} {ifs : List Expr} {g : TG} {vg : GM} {tt : TT} {vt : MT} {te : TE} {ve : ME} {wi : TI} {vi : MI} {pos spos : Pos} (i : Nat) (nd : X.N.Nodup) (hi : FI X c Wx tg iter wi vi) (B : FBlk X c scope own ss tg elt ifs g vg tt vt te ve)
    (hsw : swapsWith (.ListComp elt [⟨tg, iter, ifs, 0⟩] scope pos) (some (.Name y py)) spos.line X.env = pure true) (hx : i ∉ c.fx := by (dsimp only; decide)) (hc : X.calm = true := by rfl) (hy : X.N[i]? = some y := by rfl) (hyl : X.env.scope.names.lookup y = some .local := by rfl) (hs : ∀ x, foldedSetIterable iter X.env x = pure x := by intro _; rfl) (hvs : own.map (·.2) = vs := by rfl) :
    FSt X c Wx (.Assign [.Name y py] (.ListComp elt [⟨tg, iter, ifs, 0⟩] scope pos) spos) (tAsg (tLc wi g tt te (own.map (·.2))) (gName i)) (mSet i (mLc c.fx vi vg vt ve vs)) := by
  subst hvs
  refine (vst_setLc i nd hi B hsw hc hy hyl hs).weak fun DV env h => ?_
  have h := po_set1 hx h
  exact po_lc h
theorem fst_ownLc {vs : List Nat} {y : Str} {py : Pos} {scope : Scope} {own : List (Str × Nat)} {ss : List Nat} {tg elt iter : Expr} {ifs : List Expr} {g : TG} {vg : GM} {tt : TT} {vt : MT} {te : TE} {ve : ME} {wi : TI} {vi : MI} {pos spos : Pos} (i : Nat) (nd : X.N.Nodup) (hi : FI X c Wx tg iter wi vi) (B : FBlk X c scope own ss tg elt ifs g vg tt vt te ve)
    (hsw : swapsWith (.ListComp elt [⟨tg, iter, ifs, 0⟩] scope pos) (some (.Name y py)) spos.line X.env = pure true) (hx : i ∉ c.fx := by (dsimp only; decide)) (hc : X.calm = true := by rfl) (hy : X.N[i]? = some y := by rfl) (hyl : X.env.scope.names.lookup y = some .local := by rfl) (hs : ∀ x, foldedSetIterable iter X.env x = pure x := by intro _; rfl) (hvs : own.map (·.2) = vs := by rfl) :
    FSt X c Wx (.Assign [.Name y py] (.ListComp elt [⟨tg, iter, ifs, 0⟩] scope pos) spos) (tAsg (tLc wi g tt te (own.map (·.2))) (gName i)) (mOwn i (mLc c.fx vi vg vt ve vs)) := by
  subst hvs
  refine (vst_ownLc i nd hi B hsw hc hy hyl hs).weak fun DV env h => ?_
  have h := po_own1 hx h
  exact po_lc h
@[simp] def modeB (fx : List Nat) : List M → Nat → Bool
  | [], _ => true
  | .val _ :: ms, k => modeB fx ms (k + 1)
  | .own _ :: ms, k => fx.contains k && modeB fx ms (k + 1)
theorem modeB_of {fx : List Nat} : ∀ {ms : List M} {k : Nat}, modeB fx ms k = true → modeOk ms k fx
  | [], _, _ => trivial
  | .val _ :: ms, k, h => modeB_of (ms := ms) h
  | .own _ :: ms, k, h => by
    simp only [modeB, Bool.and_eq_true, List.contains_eq_mem, decide_eq_true_eq] at h
    exact ⟨h.1, modeB_of h.2⟩
def fn3 (w : W) : Option (List M) → R (List M) W
  | some os => .ok w os
  | none => .no
@[simp] theorem fn3_c1 (w : W) (os) : fn3 w (some os) = .ok w os := rfl
@[simp] theorem fn3_c2 (w : W) : fn3 w none = .no := rfl
def fn4 (C : Str) (fs : List (Str × D)) : Option (List M) → R (List M) W
  | some os => .ex C fs os
  | none => .no
@[simp] theorem fn4_c1 (C : Str) (fs : List (Str × D)) (os) : fn4 C fs (some os) = .ex C fs os := rfl
@[simp] theorem fn4_c2 (C : Str) (fs : List (Str × D)) : fn4 C fs none = .no := rfl
def fn2 (ms : List M) : SR → R (List M) W
  | .nx e => fn3 (.val .non) (outsOf ms 0 e)
  | .rt (.val d) e => fn3 (.val d) (outsOf ms 0 e)
  | .rt (.tmp oc) e => fn3 (.tmp oc) (outsOf ms 0 e)
  | .ex C fs e => fn4 C fs (outsOf ms 0 e)
  | _ => .no
@[simp] theorem fn2_c1 (ms : List M) (e) : fn2 ms (.nx e) = fn3 (.val .non) (outsOf ms 0 e) := rfl
@[simp] theorem fn2_c2 (ms : List M) (d e) : fn2 ms (.rt (.val d) e) = fn3 (.val d) (outsOf ms 0 e) := rfl
@[simp] theorem fn2_c3 (ms : List M) (oc e) : fn2 ms (.rt (.tmp oc) e) = fn3 (.tmp oc) (outsOf ms 0 e) := rfl
@[simp] theorem fn2_c4 (ms : List M) (C fs e) : fn2 ms (.ex C fs e) = fn4 C fs (outsOf ms 0 e) := rfl
def fn1 (r : SR) (ms : List M) : Bool → R (List M) W
  | true => fn2 ms r
  | false => .no
@[simp] theorem fn1_c1 (r : SR) (ms : List M) : fn1 r ms true = fn2 ms r := rfl
@[simp] theorem fn1_c2 (r : SR) (ms : List M) : fn1 r ms false = .no := rfl
@[simp] def fnM (np n : Nat) (fx : List Nat) (b : MS) : FN := fun ms => fn1 (b (start0 n ms)) ms (ms.length == np && modeB fx ms 0)
end
section
variable {P : Program} {w : World} {K : PySem.W.Frag} {mg : Str → Option Value} {base : Heap}
theorem fn1_po {r : SR} {ms : List M} {A : W → List M → Prop} {B : Str → List (Str × D) → List M → Prop} (h : match fn1 r ms true with | .ok w outs => A w outs | .ex C fs outs => B C fs outs | .no => False) : r.po (endsOf ms A B) := by
  cases r with
  | nx e =>
    dsimp only [fn1, fn2] at h
    cases ho : outsOf ms 0 e with
    | none => rw [ho] at h; exact h.elim
    | some os => rw [ho] at h; exact ⟨os, ho, h⟩
  | rt w e =>
    cases w with
    | val d =>
      dsimp only [fn1, fn2] at h
      cases ho : outsOf ms 0 e with
      | none => rw [ho] at h; exact h.elim
      | some os => rw [ho] at h; exact ⟨os, ho, h⟩
    | tmp d =>
      dsimp only [fn1, fn2] at h
      cases ho : outsOf ms 0 e with
      | none => rw [ho] at h; exact h.elim
      | some os => rw [ho] at h; exact ⟨os, ho, h⟩
    | cel i => exact h.elim
  | ex C fs e =>
    dsimp only [fn1, fn2] at h
    cases ho : outsOf ms 0 e with
    | none => rw [ho] at h; exact h.elim
    | some os => rw [ho] at h; exact ⟨os, ho, h⟩
  | bk e => exact h.elim
  | ct e => exact h.elim
  | no => exact h.elim
theorem fl_fn {x : Str} {st : Stmt} {f : Addr} {fd : FuncData} {N ps : List Str} {k : Nat} {T : List Addr} {fx : List Nat} {F : FN} (np n : Nat) (m : MS) (hF : F = fnM np n fx m) (FB : FunB K mg x st ps f fd) (S : FnScope N ps (defScope st)) (hnp : ps.length = np) (hn : N.length = n)
    (hfx : ∀ i ∈ fx, i < ps.length)
    (hbody : ∀ (cdv : Value) (A : Around) (outer : List PySem.Env) (s : Shared) (H : Hp) (E : XK), Room k (A.deeper (envOfC x (defScope st) s.heap.objs.size f cdv)) →
      ∃ ts, FSs (cxOf (L2N.CX P w) P w K mg base N x (defScope st) f cdv A outer s H E) ⟨T, fx, []⟩ (fun cls d _ H => E cls d H) (defBody st) ts m) : Callee P w K mg base T x (k + 1) ps (spF F) f fd := by
  subst hF hnp hn
  have ok : ∀ ms A B, spF (fnM ps.length N.length fx m) ms A B → (ms.length == ps.length && modeB fx ms 0) = true := fun ms A B h => by
    unfold spF at h
    simp only [fnM] at h
    cases hb : (ms.length == ps.length && modeB fx ms 0) with
    | true => rfl
    | false => rw [hb] at h; exact h.elim
  refine vl_fn FB S hfx (fun ms A B h => ?_) hbody (fun ms A B h => ?_)
  · have h1 := ok ms A B h
    simp only [Bool.and_eq_true, beq_iff_eq] at h1
    exact hl0 h1.1 (modeB_of h1.2)
  · have h1 := ok ms A B h
    unfold spF at h
    simp only [fnM] at h
    rw [h1] at h
    exact fn1_po h
end
end
end VL
set_option Elab.async false
set_option linter.all false
set_option maxRecDepth 100000
set_option maxHeartbeats 4000000
namespace VL
open PySem PySem.Spec PyProof.Rows L2
variable [CM]
theorem loop_cons {g : GM} {b : MS} {d : D} {ds : List D} {e : Env} : loopM g b (d :: ds) e = trn (loopM g b ds) (turnM g b d e) := rfl
theorem loop_inv {g : GM} {b : MS} (I : List D → Env → Prop) (h : ∀ d ds e, I (d :: ds) e → ∃ e', (turnM g b d e = .nx e' ∨ turnM g b d e = .ct e') ∧ I ds e') : ∀ ds e, I ds e → ∃ e', loopM g b ds e = .nx e' ∧ I [] e'
  | [], e, h0 => ⟨e, rfl, h0⟩
  | d :: ds, e, h0 => by
    obtain ⟨e', h1, h2⟩ := h d ds e h0
    obtain ⟨e2, h3, h4⟩ := loop_inv I h ds e' h2
    refine ⟨e2, ?_, h4⟩
    rw [loop_cons]
    rcases h1 with h1 | h1 <;> rw [h1] <;> exact h3
theorem loop_at {g : GM} {b : MS} {ds : List D} {e : Env} {r : SR} (hr : loopM g b ds e = r) (I : List D → Env → Prop) (h0 : I ds e) (h : ∀ d ds e r, I (d :: ds) e → turnM g b d e = r → ∃ e', (r = .nx e' ∨ r = .ct e') ∧ I ds e') : ∃ e', r = .nx e' ∧ I [] e' := by
  obtain ⟨e', h1, h2⟩ := loop_inv I (fun d ds e hI => h d ds e _ hI rfl) ds e h0
  exact ⟨e', by rw [← hr, h1], h2⟩
theorem loop_ix {g : GM} {b : MS} {ds : List D} (I : Nat → Env → Prop) (h : ∀ i d e, ds[i]? = some d → I i e → ∃ e', (turnM g b d e = .nx e' ∨ turnM g b d e = .ct e') ∧ I (i + 1) e') (e : Env) (h0 : I 0 e) : ∃ e', loopM g b ds e = .nx e' ∧ I ds.length e' := by
  obtain ⟨e', h1, i, hi, he, h2⟩ := loop_inv (g := g) (b := b) (fun r e => ∃ i, i ≤ ds.length ∧ r = ds.drop i ∧ I i e) (fun d r e ⟨i, hi, er, hI⟩ => by
    have hlt : i < ds.length := by
      refine Nat.lt_of_le_of_ne hi fun z => ?_
      rw [z, List.drop_length] at er; cases er
    rw [List.drop_eq_getElem_cons hlt] at er
    cases er
    obtain ⟨e', h1, h2⟩ := h i _ e (List.getElem?_eq_getElem hlt) hI
    exact ⟨e', h1, i + 1, hlt, rfl, h2⟩) ds e ⟨0, Nat.zero_le _, rfl, h0⟩
  have : i = ds.length := by
    have := congrArg List.length he
    simp at this; omega
  subst this
  exact ⟨e', h1, h2⟩
theorem loop_search {ι : Type} {g : GM} {b : MS} {e e' : Env} {w : W} (en : ι → D) (p : ι → Bool) : ∀ xs : List ι, (∀ x ∈ xs, turnM g b (en x) e = if p x then .rt w e' else .nx e) → loopM g b (xs.map en) e = if xs.any p then .rt w e' else .nx e
  | [], _ => rfl
  | x :: xs, h => by
    rw [List.map_cons, loop_cons, h x (List.mem_cons_self ..), List.any_cons]
    have ih := loop_search en p xs fun y hy => h y (List.mem_cons_of_mem _ hy)
    cases hp : p x with
    | true => simp
    | false => simp; simpa using ih
theorem comp_cons {g : GM} {t : MT} {el : ME} {vs : List Nat} {d : D} {ds : List D} {e : Env} : compM g t el vs (d :: ds) e = sq (compM g t el vs ds) consO (turnC g t el vs d e) := rfl
theorem comp_map {ι : Type} {g : GM} {t : MT} {el : ME} {vs : List Nat} {e : Env} (en : ι → D) (f : ι → D) : ∀ xs : List ι, (∀ x ∈ xs, turnC g t el vs (en x) e = .ok (some (f x)) e) → compM g t el vs (xs.map en) e = .ok (xs.map f) e
  | [], _ => rfl
  | x :: xs, h => by
    rw [List.map_cons, comp_cons, h x (List.mem_cons_self ..)]
    show mp (consO (some (f x))) (compM g t el vs (xs.map en) e) = _
    rw [comp_map en f xs fun y hy => h y (List.mem_cons_of_mem _ hy)]
    rfl
def tx (l : List Nat) : Str := ⟨l.toArray⟩
theorem tx_of (x : Str) : x = tx x.cps.toList := (SX.S_tl x).symm
@[simp] theorem tx_len (a : List Nat) : (tx a).length = a.length := SX.S_len a
@[simp] theorem tx_list (a : List Nat) : (tx a).cps.toList = a := by simp [tx]
@[simp] theorem tx_cat (a b : List Nat) : tx a ++ tx b = tx (a ++ b) := SX.S_cat a b
@[simp] theorem tx_eq (a b : List Nat) : (tx a = tx b) = (a = b) := propext ⟨SX.S_inj, fun h => by rw [h]⟩
@[simp] theorem tx_one (n : Nat) : (⟨#[n]⟩ : Str) = tx [n] := rfl
theorem tx_beq (a b : List Nat) : (tx a == tx b) = decide (a = b) := SX.S_beq_eq
@[simp] theorem cutS_to (a : List Nat) (n : Nat) : cutS (tx a) none (some (n : Int)) = tx (a.take n) := by rw [C8.cutS_slice]; exact SX.slice_to (Int.natCast_nonneg n)
@[simp] theorem cutS_from (a : List Nat) (n : Nat) : cutS (tx a) (some (n : Int)) none = tx (a.drop n) := by rw [C8.cutS_slice]; exact SX.slice_from (Int.natCast_nonneg n)
abbrev dT (l : List Nat) : D := .str (tx l)
@[simp] theorem strsOf_mapf {α : Type} (f : α → Str) : ∀ l : List α, strsOf (l.map fun x => D.str (f x)) = some (l.map f)
  | [] => rfl
  | x :: l => by simp [strsOf_mapf f l]
@[simp] theorem intsOf_mapf {α : Type} (f : α → Int) : ∀ l : List α, intsOf (l.map fun x => D.int (f x)) = some (l.map f)
  | [] => rfl
  | x :: l => by simp [intsOf_mapf f l]
@[simp] theorem blsOf_mapf {α : Type} (f : α → Bool) : ∀ l : List α, blsOf (l.map fun x => D.bl (f x)) = some (l.map f)
  | [] => rfl
  | x :: l => by simp [blsOf_mapf f l]
@[simp] theorem nlt1 (a n : Nat) : ((a : Int) < (no_index (OfNat.ofNat n) : Int)) = (a < OfNat.ofNat n) := propext Int.ofNat_lt
@[simp] theorem nlt2 (a n : Nat) : ((no_index (OfNat.ofNat n) : Int) < (a : Int)) = (OfNat.ofNat n < a) := propext Int.ofNat_lt
@[simp] theorem nle1 (a n : Nat) : ((a : Int) ≤ (no_index (OfNat.ofNat n) : Int)) = (a ≤ OfNat.ofNat n) := propext Int.ofNat_le
@[simp] theorem nle2 (a n : Nat) : ((no_index (OfNat.ofNat n) : Int) ≤ (a : Int)) = (OfNat.ofNat n ≤ a) := propext Int.ofNat_le
@[simp] theorem neq1 (a n : Nat) : ((a : Int) = (no_index (OfNat.ofNat n) : Int)) = (a = OfNat.ofNat n) := propext Int.ofNat_inj
@[simp] theorem neq2 (a n : Nat) : ((no_index (OfNat.ofNat n) : Int) = (a : Int)) = (OfNat.ofNat n = a) := propext Int.ofNat_inj
theorem mulOk_L {i j : Int} (h : -18446744073709551616 < i ∧ i < 18446744073709551616) : MulOk i j := .inl (.inl h)
theorem mulOk_R {i j : Int} (h : -18446744073709551616 < j ∧ j < 18446744073709551616) : MulOk i j := .inl (.inr h)
@[simp] theorem mulI_l {i j : Int} (h : -18446744073709551616 < i ∧ i < 18446744073709551616) : mulI i j = some (.val (.int (i * j))) := chk_of (mulOk_L h)
@[simp] theorem mulI_r {i j : Int} (h : -18446744073709551616 < j ∧ j < 18446744073709551616) : mulI i j = some (.val (.int (i * j))) := chk_of (mulOk_R h)
@[simp] theorem divI_s {i j : Int} (h : 0 < j ∧ j < 1000000000) : divI i j = some (.val (.int (i.fdiv j))) := chk_of (.inr ⟨by omega, by omega⟩)
end VL
set_option Elab.async false
set_option linter.all false
set_option maxRecDepth 100000
set_option maxHeartbeats 4000000
namespace GX
open PySem PySem.Spec PyProof.Rows L2 GxR GenW
abbrev gcx (X : Cx) (s : Shared) (H : Hp) (cenv : Env) (fp : List Addr) (A : Around) : Cx :=
  { X with s_0 := s, H_0 := H, env := cenv, A := A, outer := X.stack, stack := cenv :: X.stack, ex := fp, fn := fun _ => false, pn := [], xe := fun _ _ => False }
abbrev gA (A : Around) (cenv : Env) : Around := (A.in1.in1).deeper cenv
theorem over_loop (A : Around) {elt tg iter : Expr} {scope : Scope} {pos : Pos} {it acc : Value} {cenv : Env} : A.over (.compLoop (.GeneratorExp elt [⟨tg, iter, [], 0⟩] scope pos) 0 it acc cenv) [] = A.deeper cenv := by
  first
    | rfl
    | (obtain ⟨hd, d, fr, gs, u⟩ := A; simp [Around.over, Around.deeper, marksOver, frameCount, unitsOf, envsOf, guardsOf, pushEnvs, pushGuards, Code.envs, Code.env?, Code.isFrame, Code.guards, Code.isGuard, Code.weight, Code.frames, Code.isCreation, Code.isCaller, Code.cUnits])
section
variable {X : Cx}
def Yp (G : Cx) (pins : List (Addr × Obj)) (isAll : Bool) (Q : VK) : Protocol := fun n s₀ v s kap =>
  ∃ (b : Bool) (σ' : L2.St) (H' : Hp), v = .bool b ∧ Inv G pins σ' H' s ∧ (b ≠ isAll → Q (.bl (!isAll)) H') ∧ (b = isAll → ∀ s'' : Shared, s''.heap = s.heap → s''.os = s.os → AllBare s''.gens → kap (.send .none) s'')
def Fp (G : Cx) (pins : List (Addr × Obj)) (isAll : Bool) (Q : VK) : Nat → Shared → Shared → Prop := fun n s₀ s => ∃ (σ' : L2.St) (H' : Hp), Inv G pins σ' H' s ∧ Q (.bl isAll) H'
def Rp (G : Cx) (pins : List (Addr × Obj)) (isAll : Bool) (Q : VK) : GenEnd := fun n s₀ r s₁ => ((r = .ok (.ret .none) ∨ r = .ok .next) ∧ Fp G pins isAll Q n s₀ s₁) ∨ ∃ e, r = .error e ∧ False
theorem Inv.heapOnly {pins : List (Addr × Obj)} {σ : L2.St} {H : Hp} {s s' : Shared} (I : Inv X pins σ H s) (hh : s'.heap = s.heap) (ho : s'.os = s.os) (hg : AllBare s'.gens) : Inv X pins σ H s' := by
  have J := I.call' (s' := s') (ch := []) ho (by rw [hh]; exact Un.refl) (by rw [hh]; exact I.hok) hg (fun b hb => nomatch hb)
  exact J
def Turns (isAll : Bool) (J : It) (g : TG) (te : TE) (τ : L2.St) (vs : List Nat) (Q : VK) (W : Nat → Nat → Hp → Prop) : Prop := ∀ i m H, W i m H →
  (J.stop i H ∧ Q (.bl isAll) H) ∨ (J.go i H ∧ ∀ x H', J.yld i H x H' → g x τ H' fun σ2 H2 => wipe σ2 vs = τ ∧ te σ2 H2 fun y H3 => ∃ b, y = .bl b ∧ if b = isAll then ∃ m', m' < m ∧ W (i + 1) m' H3 else Q (.bl (!isAll)) H3)
theorem seg_gen {G : Cx} {B : Around} {pins : List (Addr × Obj)} {isAll : Bool} {elt tg iter : Expr} {scope : Scope} {pos : Pos} {it : Addr} {fp : List Addr} {tn : Nat → Heap → Prop} {J : It} {τ : L2.St} {vs : List Nat} {g : TG} {te : TE} {Q : VK} {W : Nat → Nat → Hp → Prop}
    (hA : G.A = B.deeper G.env) (hxe : G.xe = fun _ _ => False) (hex : ∀ b ∈ fp, b ∈ G.ex) (hpins : ∀ p ∈ G.pn ++ pins, p.1 ∉ fp) (hw : wipe τ vs = τ) (hc : G.calm = true) (hco : G.env.scope.isCoroutine = false) (T : Turn G.prog G.w G.K tg J fp it tn)
    (pg : PG G tg g) (pe : PE G elt te) (turn : Turns isAll J g te τ vs Q W) :
    ∀ (n m i : Nat) (s₀ s : Shared) (H : Hp), m < n → Inv G pins τ H s → tn i s.heap → (∀ b ∈ fp, H b = none) → W i m H →
      Seg (model G.prog G.w) B (Rp G pins isAll Q) (Yp G pins isAll Q) n s₀ (.compLoop (.GeneratorExp elt [⟨tg, iter, [], 0⟩] scope pos) 0 (.ref it) .none G.env)
        ((model G.prog G.w).den (.compLoop (.GeneratorExp elt [⟨tg, iter, [], 0⟩] scope pos) 0 (.ref it) .none G.env)) [] s := by
  have stat : ∀ {pl : List (Addr × Obj)} {σ' : L2.St} {H' : Hp} {s' : Shared}, (∀ p ∈ G.pn ++ pl, p.1 ∉ fp) → Inv G pl σ' H' s' → (∀ b ∈ fp, H' b = none) → ∀ b ∈ fp, FpOk G pl H' b := fun {pl σ' H' s'} hp I' hn b hb =>
    ⟨hn b hb, (I'.ok.exf b (hex b hb)).1, I'.ok.exfs b (hex b hb), .inl (hex b hb), fun x c e => (I'.ok.exf b (hex b hb)).2 x c e, fun p hp' z => hp p hp' (by rw [z]; exact hb)⟩
  intro n
  induction n with
  | zero => intro m i s₀ s H h; omega
  | succ n ih =>
    intro m i s₀ s H hmn I st hn w
    show Seg _ B _ _ _ s₀ _ ((compTurn (.GeneratorExp elt [⟨tg, iter, [], 0⟩] scope pos) 0 (.ref it) .none G.env).onRaise (leaving G.env)) [] s
    rw [compTurn_gen, Sem.onRaise_eq_wrap]
    refine seg_bind_wrap (wpAny_standAt ?_)
    rcases turn i m H w with ⟨stop, qq⟩ | ⟨go, step⟩
    · refine seg_bind_wrap ?_
      rw [over_loop, ← hA]
      have td := T.done G rfl rfl rfl hc i pins s _ H (fun _ _ => False) I (stat hpins I hn) st stop
      refine thnF td fun r s6 ⟨hr, I6⟩ => ?_
      subst hr
      exact seg_end (.ok .next) (.inl ⟨.inr rfl, _, H, I6, qq⟩)
    · refine seg_bind_wrap ?_
      rw [over_loop, ← hA]
      have ti := T.item G rfl rfl rfl hc i pins s _ H (fun _ _ => False) I (stat hpins I hn) st go
      refine thnF ti fun r s6 ⟨u, hr, h6⟩ => ?_
      subst hr
      refine seg_bind_wrap ?_
      rw [over_loop, ← hA]
      refine thnF h6 fun _ s7 ⟨x, H7, I7, r7, y7, st7, n7⟩ => ?_
      have I7' := I7.pinned (stat hpins I7 n7) (T.obj _ _ st7)
      refine seg_bind_wrap ?_
      rw [over_loop, ← hA]
      have pgr := pg.run _ s7 _ H7 x u _ I7' r7 (step x H7 y7)
      rw [hxe] at pgr
      refine thnF pgr fun _ s8 ⟨σ8, H8, I8, hw8, q8⟩ => ?_
      refine seg_bind_wrap (wpAny_tests_nil ?_)
      simp only [if_true]
      have hy : ∀ v, yieldOut G.env v = yieldValue v := fun v => by simp only [yieldOut, hco, Bool.false_eq_true, if_false]
      simp only [hy]
      rw [Sem.bind_eq_wrap', Sem.bind_eq_wrap', Sem.wrap_wrap, Sem.wrap_wrap]
      refine seg_wrap ?_
      rw [over_loop, ← hA]
      have per := pe.run _ s8 σ8 H8 _ I8 q8
      rw [hxe] at per
      refine thnF per fun z s10 ⟨yv, H10, I10, r10, b, hb, q10⟩ => ?_
      subst hb
      cases (show z = Value.bool b from r10)
      have pin' : ∀ b ∈ fp, ∀ o, s7.heap.get? b = some o → s10.heap.get? b = some o ∧ H10 b = none := fun b hb o e =>
        let z := I10.pin (b, o) (List.mem_append_right _ (List.mem_append_right _ (mem_pinsAt hb e)))
        ⟨z.1, z.2.1⟩
      have hl : τ.length = σ8.length := by rw [← hw8, wipe_length]
      have I11 : Inv G pins τ H10 s10 := (I10.unpinned (pins := pins)).weak hl fun j v e => by
        rw [← hw8] at e
        exact (wipe_some e).1
      refine seg_at (seg_yield rfl rfl rfl ⟨b, τ, H10, rfl, I11, fun hne => ?_, fun he s'' hh ho hg => ?_⟩)
      · rw [if_neg hne] at q10; exact q10
      · rw [if_pos he] at q10
        obtain ⟨m', hm', w'⟩ := q10
        refine seg_again rfl (ih m' (i + 1) s'' s'' H10 (by omega) (Inv.heapOnly I11 hh ho hg) ?_ ?_ w')
        · rw [hh]
          exact T.keep _ _ _ st7 fun b hb o e => (pin' b hb o e).1
        · intro b hb
          obtain ⟨o, e, _⟩ := T.obj _ _ st7 b hb
          exact (pin' b hb o e).2
end
end GX
set_option Elab.async false
set_option linter.all false
set_option maxRecDepth 100000
set_option maxHeartbeats 4000000
namespace GX
open PySem PySem.Spec PyProof.Rows L2 GxR GenW
section
variable {X G : Cx} {pins : List (Addr × Obj)} {Q : VK}
theorem goes_start {B : Around} {isAll : Bool} {elt tg iter : Expr} {scope : Scope} {pos : Pos} {it : Addr} {fp : List Addr} {tn : Nat → Heap → Prop} {J : It} {n : Nat} {s₀ s : Shared}
    (hcalm : B.handled = none) (T : Turn G.prog G.w G.K tg J fp it tn) (st : tn 0 s.heap)
    (loop : Seg (model G.prog G.w) B (Rp G pins isAll Q) (Yp G pins isAll Q) n s₀ (.compLoop (.GeneratorExp elt [⟨tg, iter, [], 0⟩] scope pos) 0 (.ref it) .none G.env)
        ((model G.prog G.w).den (.compLoop (.GeneratorExp elt [⟨tg, iter, [], 0⟩] scope pos) 0 (.ref it) .none G.env)) [] s) :
    Seg (model G.prog G.w) B (Rp G pins isAll Q) (Yp G pins isAll Q) n s₀ (.compStart (.GeneratorExp elt [⟨tg, iter, [], 0⟩] scope pos) 0 (.ref it) .none G.env)
        ((model G.prog G.w).den (.compStart (.GeneratorExp elt [⟨tg, iter, [], 0⟩] scope pos) 0 (.ref it) .none G.env)) [] s := by
  show Seg _ B _ _ _ s₀ _ ((compStart (.GeneratorExp elt [⟨tg, iter, [], 0⟩] scope pos) 0 (.ref it) .none G.env).onRaise (leaving G.env)) [] s
  unfold compStart
  rw [Sem.onRaise_eq_wrap]
  show Seg _ B _ _ _ s₀ _ ((ask >>= _).wrap _ _ _ _) [] s
  refine seg_bind_wrap (wpAny_askSetting ?_)
  split
  · exact seg_again rfl loop
  · first
      | exact seg_bind_wrap (wpAny_rule (seg_bind_wrap (wpAny_standAt (seg_bind_wrap (T.self _ 0 s _ _ st (seg_again rfl loop))))))
      | (refine seg_bind_wrap (wpAny_rule ?_); show Seg _ B _ _ _ s₀ _ ((standAt iter.pos >>= _).wrap _ _ _ _) [] s; exact seg_bind_wrap (wpAny_standAt (seg_bind_wrap (T.self _ 0 s _ _ st (seg_again rfl loop)))))
theorem drive_all {A : Around} {Rr : Result → Shared → Prop} {a : Addr} {g : Nat} {og : Obj} (hh : A.handled = none) (hd : A.depth < recursionLimit) (hog : (a, og) ∈ pins) (hgen : ∀ h : Heap, h.get? a = some og → h.IsGen a g)
    (hend : ∀ (b : Bool) (σ' : L2.St) (H' : Hp) (s s' : Shared), Inv G pins σ' H' s → s'.os = s.os → AllBare s'.gens → (∀ b o, s.heap.get? b = some o → s'.heap.get? b = some o) → Q (.bl b) H' → Rr (.ok (.ret (.bool b))) s') :
    ∀ (n : Nat) (s : Shared) (σ : L2.St) (H : Hp), Inv G pins σ H s →
      (∃ gs, s.gens[g]? = some gs ∧ gs.Goes (model G.prog G.w) A.in1.in1 (Rp G pins true Q) (Yp G pins true Q) n (.send .none) (s.setGen g .running)) →
      codeAny (model G.prog G.w) A (.builtin "all.loop" ⟨[.ref a], []⟩) Rr s := by
  intro n
  induction n with
  | zero =>
    intro s σ H I ⟨gs, hgs, hgo⟩
    have hg : s.heap.IsGen a g := hgen _ (I.pin _ (List.mem_append_right _ hog)).1
    refine codeAny_builtin F.entry_all_loop ?_
    rw [Around.under_plainId F.plain_all_loop _]
    show wpAny _ A.in1 (pyNext (.ref a) >>= _) _ _ s
    refine wpAny_bind (next_genG (A := A.in1) hh I.nolimit hd hg hgs hgo (fun v s₁ gs' hbare hv => ?_) (fun s₁ hp h' hk => ?_) fun e s₁ he => he.elim)
    · obtain ⟨b, σ', H', rfl, I', hq, hk⟩ := hv
      cases b with
      | true => exact False.elim (hk rfl s₁ rfl rfl I'.bare)
      | false =>
        refine wpAny_bind (wpAny_holding (wpAny_truthy_bool ?_))
        refine wpAny_bind (wpAny_letGo ?_)
        simp only [Bool.false_eq_true, if_false]
        refine wpAny_bind (wpAny_rule (wpAny_pure ?_))
        exact hend false σ' H' s₁ _ I' rfl (allBare_setGen I'.bare hbare) (fun _ _ e => e) (hq (by simp))
    · obtain ⟨σ', H', I', hQ⟩ := hp
      refine wpAny_bind (wpAny_rule (wpAny_pure ?_))
      exact hend true σ' H' s₁ _ I' rfl (allBare_setGen (s := s₁) I'.bare rfl) hk hQ
  | succ n ih =>
    intro s σ H I ⟨gs, hgs, hgo⟩
    have hg : s.heap.IsGen a g := hgen _ (I.pin _ (List.mem_append_right _ hog)).1
    have hgl : g < s.gens.size := (Array.getElem?_eq_some_iff.mp hgs).1
    refine codeAny_builtin F.entry_all_loop ?_
    rw [Around.under_plainId F.plain_all_loop _]
    show wpAny _ A.in1 (pyNext (.ref a) >>= _) _ _ s
    refine wpAny_bind (wpAny_gsz (n := g + 1) hgl (next_genG (A := A.in1) hh I.nolimit hd hg hgs hgo (fun v s₁ gs' hbare hv => ?_) (fun s₁ hp h' hk => ?_) fun e s₁ he => he.elim))
    · intro hsz
      obtain ⟨b, σ', H', rfl, I', hq, hk⟩ := hv
      refine wpAny_bind (wpAny_holding (wpAny_truthy_bool ?_))
      refine wpAny_bind (wpAny_letGo ?_)
      cases b with
      | false =>
        simp only [Bool.false_eq_true, if_false]
        refine wpAny_bind (wpAny_rule (wpAny_pure ?_))
        exact hend false σ' H' s₁ _ I' rfl (allBare_setGen I'.bare hbare) (fun _ _ e => e) (hq (by simp))
      | true =>
        simp only [if_true]
        have hsz1 : g < s₁.gens.size := by
          have q : (s₁.setGen g gs').gens.size = s₁.gens.size := setGen_size _ _ _
          have hsz' : g + 1 ≤ (s₁.setGen g gs').gens.size := hsz
          omega
        refine wpAny_pure ⟨plainId_quiet F.plain_all_loop _, ih (s₁.setGen g gs') σ' H' (Inv.heapOnly I' rfl rfl (allBare_setGen I'.bare hbare)) ⟨gs', setGen_at hsz1, ?_⟩⟩
        exact hk rfl _ rfl rfl (allBare_setGen (s := s₁.setGen g gs') (allBare_setGen I'.bare hbare) rfl)
    · intro hsz
      obtain ⟨σ', H', I', hQ⟩ := hp
      refine wpAny_bind (wpAny_rule (wpAny_pure ?_))
      exact hend true σ' H' s₁ _ I' rfl (allBare_setGen (s := s₁) I'.bare rfl) hk hQ
end
end GX
set_option Elab.async false
set_option linter.all false
set_option maxRecDepth 100000
set_option maxHeartbeats 4000000
namespace GX
open PySem PySem.Spec PyProof.Rows L2 GxR GenW
section
variable {X : Cx} {pins : List (Addr × Obj)} {σ : L2.St} {H : Hp} {s : Shared}
theorem gen_start {scope : Scope} {own : List (Str × Nat)} {fp : List Addr} {code itv : Value} {A' : Around} {h5 : Heap} {tk a : Nat} {g5 : Array GenState} {og : Obj} (I : Inv X pins σ H s) (ok : BlkOk X.N X.env.scope scope own) (hcell : ∀ y ∈ scope.names, y.2 ≠ .cell) (hN : X.N.Nodup) (hfp : ∀ b ∈ fp, FpOk X pins H b ∧ b < s.heap.objs.size)
    (hA : X.calm = true → A'.handled = none) (hfr : A'.frames = some (genEnv scope (cloFrom X.env.cells scope.names []) s.heap.objs.size code builtinsNs X.env :: X.stack))
    (kp : ∀ b o, s.heap.get? b = some o → h5.get? b = some o) (ns : h5.Ns s.heap.objs.size (fun y => if y = ".0" then some itv else none)) (h0 : (".0" : Str) ∉ X.N) (ha : s.heap.objs.size < a) (hog : h5.get? a = some og) (hod : ∀ v, og.data ≠ .cell v) (hg5 : AllBare g5) :
    Inv (gcx X s H (genEnv scope (cloFrom X.env.cells scope.names []) s.heap.objs.size code builtinsNs X.env) fp A') [(a, og)] (wipe σ (own.map (·.2))) H { s with gens := g5, heap := h5, toks := tk } := by
  have hfree : ∀ y ∈ scope.names, y.2 = .free → ∃ c, X.env.cells.lookup y.1 = some c := fun y hy e => by
    rcases ok.free y hy e with k | k
    · exact I.ok.has _ (.inl k)
    · exact I.ok.has _ (.inr k)
  generalize hcenv : genEnv scope (cloFrom X.env.cells scope.names []) s.heap.objs.size code builtinsNs X.env = cenv at hfr
  have hL : cenv.locals = s.heap.objs.size := by rw [← hcenv]; rfl
  have hcl : cenv.cells = cloFrom X.env.cells scope.names [] := by rw [← hcenv]; rfl
  have hsc : cenv.scope = scope := by rw [← hcenv]; rfl
  have cm : ∀ {y c}, (y, c) ∈ cloFrom X.env.cells scope.names [] → X.env.cells.lookup y = some c ∧ c < s.heap.objs.size := fun {y c} hm => by
    rcases cloFrom_mem hm with hm | ⟨h1, rfl⟩
    · cases hm
    · obtain ⟨c, hc⟩ := hfree _ h1 rfl
      rw [hc]
      obtain ⟨w, z⟩ := I.cell _ _ hc
      exact ⟨rfl, z.lt⟩
  have mem : ∀ {y c}, cenv.cells.lookup y = some c → X.env.cells.lookup y = some c ∧ c < s.heap.objs.size := fun {y c} e => by
    rw [hcl] at e
    exact cm (PySem.mem_of_lookup e)
  have look : ∀ {y}, scope.names.lookup y = some .free → ∃ c, cenv.cells.lookup y = some c ∧ X.env.cells.lookup y = some c := fun {y} hl => by
    have hy : (y, NameKind.free) ∈ scope.names := PySem.mem_of_lookup hl
    obtain ⟨c', e'⟩ := mem_lookup (cloFrom_has (cells := X.env.cells) (acc := []) hy)
    rw [← hcl] at e'
    exact ⟨c', e', (mem e').1⟩
  have okB : (gcx X s H cenv fp A').Ok := by
    refine ⟨I.ok.mod, by show cenv.scope.kind = _; rw [hsc]; exact ok.kind, by show cenv.globals = _; rw [← hcenv]; exact I.ok.glob, by show cenv.builtins = _; rw [← hcenv]; rfl, by show s.heap.objs.size ≤ cenv.locals; rw [hL]; exact Nat.le_refl _,
      fun y z c e1 e2 => I.ok.inj y z c (mem e1).1 (mem e2).1, fun y hy => ?_, fun y c z e => (by cases z), hA, hfr, .inr ⟨rfl, by show cenv.frame = some cenv.locals; rw [hL, ← hcenv]; rfl⟩, fun b hb => ⟨?_, fun y c e z => ?_⟩, I.bs, Nat.le_trans I.ok.bsz I.sz, fun b o e hb => ?_, fun b hb z => ?_, I.stack, I.stkFree⟩
    · show ∃ c, cenv.cells.lookup y = some c
      have key : ∀ k, cenv.kindOf y = some k → (k = .cell ∨ k = .free) → ∃ c, cenv.cells.lookup y = some c := fun k hk hk' => by
        unfold Env.kindOf at hk
        rw [hsc] at hk
        rcases hk' with rfl | rfl
        · exact absurd rfl (hcell _ (PySem.mem_of_lookup hk))
        · obtain ⟨c, h1, _⟩ := look hk
          exact ⟨c, h1⟩
      rcases hy with hy | hy
      · exact key _ hy (.inl rfl)
      · exact key _ hy (.inr rfl)
    · show b ≠ cenv.locals
      rw [hL]; exact Nat.ne_of_lt (hfp b hb).2
    · exact (hfp b hb).1.2.2.2.2.1 y c (mem e).1 z
    · rcases (hfp b hb).1.2.2.2.1 with z | z
      · exact I.ok.noex b o e z
      · exact absurd (Nat.lt_of_lt_of_le (Heap.lt_size e) (Nat.le_trans I.ok.bsz z)) (Nat.lt_irrefl _)
    · rcases List.mem_cons.mp (I.stkSub b z) with z | z
      · exact (hfp b hb).1.2.1 z
      · exact (hfp b hb).1.2.2.1 z
  refine ⟨okB, rfl, hg5, Un.kept kp, ⟨_, by show Heap.Ns _ cenv.locals _; rw [hL]; exact ns, fun i y av e1 e2 e3 => ?_⟩, fun y c e => ?_, ?_, fun y c e => ?_, fun p hp => ?_, I.hok.kept kp, by rw [wipe_length]; exact I.len⟩
  · obtain ⟨e2, hne⟩ := wipe_some e2
    have e3 : Vis cenv.scope y := e3
    rw [hsc] at e3
    have no : ∀ k, scope.names.lookup y = some k → ¬ (k = .local ∨ k = .cell) := fun k e hh => by
      rcases ok.own _ (PySem.mem_of_lookup e) hh with e' | e'
      · obtain ⟨p, hp, hpy⟩ := List.mem_map.mp e'
        have e3 := ok.ix p hp
        have : p.1 = y := hpy
        rw [this] at e3
        exact hne (List.mem_map.mpr ⟨p, hp, nodup_ix hN e3 e1⟩)
      · exact e' (List.mem_of_getElem? e1)
    have hfr2 : scope.names.lookup y = some .free := by
      rcases e3 with e3 | e3 | e3
      · exact absurd (.inl rfl) (no _ e3)
      · exact absurd (.inr rfl) (no _ e3)
      · exact e3
    obtain ⟨m, hn, hl⟩ := I.loc
    have hvis : Vis X.env.scope y := (ok.free _ (PySem.mem_of_lookup hfr2) rfl).elim (fun k => .inr (.inl k)) (fun k => .inr (.inr k))
    obtain ⟨w, r, q⟩ := hl i y av e1 e2 hvis
    refine ⟨w, r, .inr ⟨.inr (by show cenv.kindOf y = _; unfold Env.kindOf; rw [hsc]; exact hfr2), ?_⟩⟩
    obtain ⟨c, h1, h2⟩ := look hfr2
    rcases q with ⟨k, _⟩ | ⟨_, c', e', z⟩
    · have k : X.env.scope.names.lookup y = some .local := k
      rcases ok.free _ (PySem.mem_of_lookup hfr2) rfl with k' | k' <;> rw [show X.env.scope.names.lookup y = _ from k'] at k <;> cases k
    · rw [h2] at e'; cases e'
      exact ⟨c, h1, z.keeps kp⟩
  · obtain ⟨w, z⟩ := I.cell y c (mem e).1
    exact ⟨w, z.keeps kp⟩
  · show H cenv.locals = none
    rw [hL]; exact I.hok.fresh (Nat.le_refl _)
  · exact I.freeC y c (mem e).1
  · have hp : p ∈ [(a, og)] := hp
    rcases List.mem_cons.mp hp with rfl | hp
    · refine ⟨hog, I.hok.fresh (Nat.le_of_lt ha), ?_, fun z => ?_, hod⟩
      · show a ≠ cenv.locals
        rw [hL]; exact Nat.ne_of_gt ha
      · have z : a ∈ frs X.stack := z
        rcases List.mem_cons.mp (I.stkSub a z) with z | z
        · have := I.lt
          rw [← z] at this
          exact absurd (Nat.lt_trans ha this) (Nat.lt_irrefl _)
        · exact I.nofs (Nat.le_of_lt ha) z
    · cases hp
end
end GX
set_option Elab.async false
set_option linter.all false
set_option maxRecDepth 100000
set_option maxHeartbeats 4000000
namespace GX
open PySem PySem.Spec PyProof.Rows L2 GxR GenW
section
variable {X : Cx} {pins : List (Addr × Obj)} {σ : L2.St} {H : Hp} {s : Shared}
def tAG (isAll : Bool) (P : Addr) (wi : TI) (g : TG) (te : TE) (vs : List Nat) : TE := fun σ H Q => wi σ H fun J H1 => TabG H1 P ∧ ∀ H2, Tabbed P H1 H2 → ∃ W : Nat → Nat → Hp → Prop, (∃ m, W 0 m H2) ∧ Turns isAll J g te (wipe σ vs) vs Q W
def Rdy (X : Cx) (pins : List (Addr × Obj)) (σ : L2.St) (isAll : Bool) (Q : VK) (a : Addr) (s5 : Shared) : Prop :=
  ∃ (s4 : Shared) (H4 : Hp) (cenv : PySem.Env) (fp : List Addr) (A' : Around) (og : Obj) (g n : Nat) (τ : L2.St) (H5 : Hp) (gs : GenState), (∀ h : Heap, h.get? a = some og → h.IsGen a g) ∧ Inv (gcx X s4 H4 cenv fp A') [(a, og)] τ H5 s5 ∧ s5.gens[g]? = some gs ∧
    gs.Goes (model X.prog X.w) X.A.in1.in1 (Rp (gcx X s4 H4 cenv fp A') [(a, og)] isAll Q) (Yp (gcx X s4 H4 cenv fp A') [(a, og)] isAll Q) n (.send .none) (s5.setGen g .running) ∧
    ∀ (σ' : L2.St) (H' : Hp) (s' s'' : Shared), Inv (gcx X s4 H4 cenv fp A') [(a, og)] σ' H' s' → s''.os = s'.os → AllBare s''.gens → (∀ b o, s'.heap.get? b = some o → s''.heap.get? b = some o) → Inv X pins σ H' s''
theorem wipe_idem {σ : L2.St} : ∀ vs : List Nat, wipe (wipe σ vs) vs = wipe σ vs := fun vs => by
  have win : ∀ {σ : L2.St} {vs : List Nat} {j : Nat}, j ∈ vs → (wipe σ vs)[j]? = if j < σ.length then some none else none := by
    intro σ vs
    induction vs with
    | nil => intro j h; simp at h
    | cons v vs ih =>
      intro j h
      unfold wipe
      by_cases e : v = j
      · subst e
        by_cases hl : v < σ.length
        · rw [List.getElem?_set_self (by rw [wipe_length]; exact hl), if_pos hl]
        · rw [List.getElem?_eq_none (by rw [List.length_set, wipe_length]; omega), if_neg hl]
      · rw [List.getElem?_set_ne e]
        exact ih ((List.mem_cons.mp h).resolve_left (fun z => e z.symm))
  have wout : ∀ {σ : L2.St} {vs : List Nat} {j : Nat}, j ∉ vs → (wipe σ vs)[j]? = σ[j]? := by
    intro σ vs
    induction vs with
    | nil => intro j h; rfl
    | cons v vs ih =>
      intro j h
      simp only [List.mem_cons, not_or] at h
      unfold wipe
      rw [List.getElem?_set_ne (fun z => h.1 z.symm)]
      exact ih h.2
  apply List.ext_getElem?
  intro j
  by_cases hj : j ∈ vs
  · rw [win hj, win hj, wipe_length]
  · rw [wout hj]
theorem gen_made {c P : Addr} {isAll : Bool} {elt tg iter : Expr} {gpos : Pos} {scope : Scope} {own : List (Str × Nat)} {wi : TI} {g : TG} {te : TE} {k : Nat} {Q : VK} {Q' : Value → Shared → Prop}
    (hr : Room k X.A) (hc : X.calm = true) (TB : TabB X.base X.mg c P) (hcode : X.env.code = .ref c) (ok : BlkOk X.N X.env.scope scope own) (hcell : ∀ y ∈ scope.names, y.2 ≠ .cell) (hdot : scope.names.lookup (".0" : Str) = some NameKind.local) (hco : scope.isCoroutine = false) (hN : X.N.Nodup) (h0 : (".0" : Str) ∉ X.N)
    (hi : PI X tg iter wi) (hgt : ∀ (s : Shared) (H : Hp) (C : Addr) (cl : List (Str × Addr)) (code : Value) (fp : List Addr), PG (gcx X s H (genEnv scope cl C code builtinsNs X.env) fp (gA X.A (genEnv scope cl C code builtinsNs X.env))) tg g)
    (hel : ∀ (s : Shared) (H : Hp) (C : Addr) (cl : List (Str × Addr)) (code : Value) (fp : List Addr), PE (gcx X s H (genEnv scope cl C code builtinsNs X.env) fp (gA X.A (genEnv scope cl C code builtinsNs X.env))) elt te)
    (hs : ∀ v, genFold iter X.env v = pure v) (I : Inv X pins σ H s) (h : tAG isAll P wi g te (own.map (·.2)) σ H Q)
    (hQ : ∀ a s5, Rdy X pins σ isAll Q a s5 → Q' (.ref a) s5) :
    wpAny (model X.prog X.w) X.A (eval (.GeneratorExp elt [⟨tg, iter, [], 0⟩] scope gpos) X.env) Q' X.xe s := by
  have hfree : ∀ y ∈ scope.names, y.2 = .free → ∃ c, X.env.cells.lookup y.1 = some c := fun y hy e => by
    rcases ok.free y hy e with k | k
    · exact I.ok.has _ (.inl k)
    · exact I.ok.has _ (.inr k)
  refine wpAny_GeneratorExp_make hco (closure_ok hfree) hcell hdot ok.kind (by have := hr.dp; omega) ?_ hs
  refine thn (hi.run pins s σ H _ I h) fun xv s1 hx => thn hx fun itv s2 h2 => ?_
  obtain ⟨it, fp, tn, J, H2, e, I2, T, st2, f2, ⟨ps, hP, ht⟩, q⟩ := h2
  subst e
  have hPs : s2.heap.get? P = some { cls := .none, data := .fields ps } := I2.hok P _ hP
  have cd : PySem.W.CodeHd s2.heap c P := TB.code.keeps I2.bk
  refine ⟨I2.nolimit, ?_⟩
  have sz : ∀ b ∈ fp, b < s2.heap.objs.size := fun b hb => by
    obtain ⟨o, e, _⟩ := T.obj _ _ st2 b hb
    exact Heap.lt_size e
  have nPf : ∀ b ∈ fp, b ≠ P := fun b hb z => by
    have := (f2 b hb).1
    rw [z, hP] at this; cases this
  have cont : ∀ (code : Value) (h3 : Heap) (tk : Nat) (ps' : Array Value), Heap.ExtBut P s2.heap h3 → s2.heap.objs.size ≤ h3.objs.size → h3.get? P = some { cls := .none, data := .fields ps' } → (∃ more, ps' = ps ++ more) → TriplesOk ps'.toList →
      wpAny (model X.prog X.w) X.A (builtinsFor X.env.globals X.env.builtins) (fun bi s₄ =>
        ∀ h', h'.Ns s₄.heap.objs.size (fun y => if y = ".0" then some (.ref it) else none) → Heap.SameBut s₄.heap.objs.size (s₄.heap.push { cls := .type "frame", data := .dict #[] }) h' →
          Q' (.ref h'.objs.size) { s₄ with
            gens := s₄.gens.push (.fresh (.compStart (.GeneratorExp elt [⟨tg, iter, [], 0⟩] scope gpos) 0 (.ref it) .none (genEnv scope (cloFrom X.env.cells scope.names []) s₄.heap.objs.size code bi X.env))),
            toks := s₄.toks + 1 + 1 + 1,
            heap := h'.push { cls := .type "generator", data := .fields #[.int s₄.gens.size 0, .str "<genexpr>" (s₄.toks + 1), .str (X.env.qual ++ "<genexpr>") (s₄.toks + 1 + 1)] } }) X.xe { s2 with heap := h3, toks := tk } := by
    intro code h3 tk ps' hx hsz hP3 hmore ht3
    obtain ⟨bm, ob, e1, e2, e3, e4, e5, e6, e7, e8⟩ := TB.bm
    have keep3 : ∀ b u, b ≠ P → s2.heap.get? b = some u → h3.get? b = some u := fun b u hb e => hx b u hb e
    refine wpAny_builtinsFor (m := X.mg) (by rw [I2.ok.glob]; exact (I2.mod.glob.keeps I2.bk).extBut hx TB.gP) e1 e2 (keep3 _ _ e4 (I2.bk _ _ e5)) e6 e7 e8 ?_
    intro h' hn' hs'
    obtain ⟨more, em⟩ := hmore
    have I3 : Inv X pins σ (upd H2 P (.tbl (ps ++ more))) { s2 with heap := h3, toks := tk } :=
      inv_tab (more := more) (h' := h3) (g' := s2.gens) (d' := s2.drawn) (t' := tk) I2 hP keep3 (by rw [← em]; exact hP3) I2.bare
    obtain ⟨W, ⟨m0, w0⟩, turn⟩ := q (upd H2 P (.tbl (ps ++ more))) ⟨⟨ps ++ more, upd_same, by rw [← em]; exact ht3⟩, fun b hb => upd_ne hb⟩
    have hszh : h'.objs.size = h3.objs.size + 1 := by rw [hs'.1, Heap.size_push]
    have kp' : ∀ b o, h3.get? b = some o → h'.get? b = some o := fun b o e => hs'.extBut b o (Nat.ne_of_lt (Heap.lt_size e)) (Heap.get?_push_of_some _ e)
    have f3 : ∀ b ∈ fp, FpOk X pins (upd H2 P (.tbl (ps ++ more))) b ∧ b < h3.objs.size := fun b hb => by
      refine ⟨⟨?_, (f2 b hb).2⟩, Nat.lt_of_lt_of_le (sz b hb) hsz⟩
      rw [upd_ne (nPf b hb)]
      exact (f2 b hb).1
    have nfp : ∀ b ∈ fp, (upd H2 P (.tbl (ps ++ more))) b = none := fun b hb => (f3 b hb).1.1
    have st3 : tn 0 h3 := T.keep _ _ _ st2 fun b hb o e => keep3 b o (nPf b hb) e
    generalize hog : ({ cls := .type "generator", data := .fields #[.int s2.gens.size 0, .str "<genexpr>" (tk + 1), .str (X.env.qual ++ "<genexpr>") (tk + 1 + 1)] } : Obj) = og
    have hget : (h'.push og).get? h'.objs.size = some og := by rw [← hog]; exact Heap.get?_push_size _ rfl
    have hgen : ∀ h : Heap, h.get? h'.objs.size = some og → h.IsGen h'.objs.size s2.gens.size := fun h e => ⟨og, _, _, e, by rw [← hog], by rw [← hog], by rw [← hog]⟩
    have I5 := gen_start (a := h'.objs.size) (og := og) (code := code) (itv := .ref it) (A' := gA X.A (genEnv scope (cloFrom X.env.cells scope.names []) h3.objs.size code builtinsNs X.env)) (h5 := h'.push og) (tk := tk + 1 + 1 + 1)
      (g5 := s2.gens.push (.fresh (.compStart (.GeneratorExp elt [⟨tg, iter, [], 0⟩] scope gpos) 0 (.ref it) .none (genEnv scope (cloFrom X.env.cells scope.names []) h3.objs.size code builtinsNs X.env)))) I3 ok hcell hN f3 (fun _ => hr.hd)
      (by first | (show Option.map _ X.A.frames = _; rw [I3.ok.frames]; rfl) | (simp [gA, Around.deeper, Around.in1, I3.ok.frames])) (fun b o e => Heap.get?_push_of_some _ (kp' b o e)) (hn'.push _) h0 (by rw [hszh]; exact Nat.lt_succ_self _) hget (by rw [← hog]; intro v z; cases z) (I2.bare.push rfl)
    have hp2 : ∀ p ∈ ([] : List (Addr × Obj)) ++ [(h'.objs.size, og)], p.1 ∉ fp := fun p hp hb => by
      have hp : p ∈ [(h'.objs.size, og)] := hp
      rcases List.mem_cons.mp hp with rfl | hp
      · have z := (f3 _ hb).2
        have z : h'.objs.size < h3.objs.size := z
        omega
      · cases hp
    refine hQ _ _ ⟨_, _, _, fp, _, og, s2.gens.size, m0 + 1, _, _, _, hgen, I5, Array.getElem?_push_size .., ?_, fun σ' H' s' s'' I' ho hg hk => ?_⟩
    · refine ⟨rfl, ?_⟩
      have I6 := Inv.heapOnly (s' := Shared.setGen { s2 with gens := s2.gens.push (.fresh (.compStart (.GeneratorExp elt [⟨tg, iter, [], 0⟩] scope gpos) 0 (.ref it) .none (genEnv scope (cloFrom X.env.cells scope.names []) h3.objs.size code builtinsNs X.env))), heap := h'.push og, toks := tk + 1 + 1 + 1 } s2.gens.size .running) I5 rfl rfl (allBare_setGen (I2.bare.push rfl) rfl)
      have st5 : tn 0 (h'.push og) := T.keep _ _ _ st3 fun b hb o e => Heap.get?_push_of_some _ (kp' b o e)
      exact goes_start (G := gcx X _ _ _ fp _) (B := X.A.in1.in1) hr.hd T st5
        (seg_gen (G := gcx X _ _ _ fp _) (B := X.A.in1.in1) (vs := own.map (·.2)) rfl rfl (fun b hb => hb) hp2 (wipe_idem _) hc hco T (hgt _ _ _ _ _ _) (hel _ _ _ _ _ _) turn (m0 + 1) m0 0 _ _ _ (Nat.lt_succ_self _) I6 st5 nfp w0)
    · have J1 := I3.call' (s' := s') (ch := fp) I'.os I'.base I'.hok I'.bare fun b hb => ⟨(f3 b hb).1.2.2.2.1, (f3 b hb).1.2.1, (f3 b hb).1.2.2.2.2.1, (f3 b hb).1.2.2.2.2.2⟩
      exact J1.call' (s' := s'') (ch := []) ho (Un.kept hk) (J1.hok.kept hk) hg fun b hb => nomatch hb
  cases hf : codeAmong gpos ps.toList with
  | none =>
    refine wpAny_genexprCodeX hcode (cd.code hPs ht) (cd.tab hPs) hf fun c' h' tk hx hge hlt hco' _ htab' _ => ?_
    obtain ⟨o1, vs, f1, tf, fl, tg2, inF, tx, tt, op, _, _, _, _, _, _, _, _, _, htr, _⟩ := hco'
    exact cont _ h' tk _ hx (Nat.le_trans hge (Nat.le_of_lt hlt)) htab'.2 ⟨_, rfl⟩ htr
  | some cv =>
    refine wpAny_genexprCode_hit hcode (cd.code hPs ht) hf ?_
    exact cont cv s2.heap s2.toks ps (Heap.ExtBut.refl _ _) (Nat.le_refl _) hPs ⟨#[], by simp⟩ ht
theorem pe_allG {c P : Addr} {elt tg iter : Expr} {p pos gpos : Pos} {scope : Scope} {own : List (Str × Nat)} {wi : TI} {g : TG} {te : TE} {k : Nat}
    (hr : Room k X.A) (hc : X.calm = true) (hg : Gl X "all") (hm : X.mg "all" = none) (TB : TabB X.base X.mg c P) (hcode : X.env.code = .ref c) (ok : BlkOk X.N X.env.scope scope own) (hcell : ∀ y ∈ scope.names, y.2 ≠ .cell) (hdot : scope.names.lookup (".0" : Str) = some NameKind.local) (hco : scope.isCoroutine = false) (hN : X.N.Nodup) (h0 : (".0" : Str) ∉ X.N)
    (hi : PI X tg iter wi) (hgt : ∀ (s : Shared) (H : Hp) (C : Addr) (cl : List (Str × Addr)) (code : Value) (fp : List Addr), PG (gcx X s H (genEnv scope cl C code builtinsNs X.env) fp (gA X.A (genEnv scope cl C code builtinsNs X.env))) tg g)
    (hel : ∀ (s : Shared) (H : Hp) (C : Addr) (cl : List (Str × Addr)) (code : Value) (fp : List Addr), PE (gcx X s H (genEnv scope cl C code builtinsNs X.env) fp (gA X.A (genEnv scope cl C code builtinsNs X.env))) elt te)
    (hs : ∀ v, genFold iter X.env v = pure v := by intro _; rfl)
    (he : starEach [.GeneratorExp elt [⟨tg, iter, [], 0⟩] scope gpos] X.env = (false, eval (.GeneratorExp elt [⟨tg, iter, [], 0⟩] scope gpos) X.env) :: starEach [] X.env := by rfl) :
    PE X (.Call (.Name "all" p) [.GeneratorExp elt [⟨tg, iter, [], 0⟩] scope gpos] [] pos) (tAG true P wi g te (own.map (·.2))) := by
  refine ⟨fun pins s σ H Q I h => ?_⟩
  refine wpAny_Call_Name_kw (ld_blt I hg hm (show bootBuiltins "all" = some (.builtin "all") by decide +kernel) ?_)
  refine PyProof.Rows.callWith_builtin1 ?_ he (by rfl)
  rw [he]
  show wpAny _ _ (spliced ((false, eval (.GeneratorExp elt [⟨tg, iter, [], 0⟩] scope gpos) X.env) :: backTo pos (starEach [] X.env))) _ _ s
  refine Calls.spliced_cons (gen_made hr hc TB hcode ok hcell hdot hco hN h0 hi hgt hel hs I h fun a s5 hR => ?_)
  obtain ⟨s4, H4, cenv, fp, A', og, gg, n, τ, H5, gs, hgen, I5, hgs, hgo, hend⟩ := hR
  refine Calls.spliced_nil ?_
  refine call_function_tree F.kind_all F.plain_all F.entry_all (F.args_all1 _) ?_
  unfold Builtin.«all»
  refine wpAny_bind (m := oneArg "all" _) (wpAny_pure ?_)
  refine wpAny_bind (wpAny_pyIter_gen (hgen _ (I5.pin _ (List.mem_append_right _ (List.mem_cons_self ..))).1) ?_)
  refine wpAny_pure ⟨plainId_quiet F.plain_all_loop _, ?_⟩
  refine drive_all (G := gcx X s4 H4 cenv fp A') (A := X.A) (og := og) (g := gg) hr.hd hr.depth (List.mem_cons_self ..) hgen (fun b σ' H' s' s'' I' ho hg' hk hq => ?_) n s5 τ H5 I5 ⟨gs, hgs, hgo⟩
  exact ⟨.bl b, H', hend σ' H' s' s'' I' ho hg' hk, rfl, hq⟩
theorem Room.gen {k : Nat} {A : Around} (r : Room (k + 1) A) (env : PySem.Env) : Room k (gA A env) :=
  ⟨r.hd, by have := r.dp; show A.depth + 1 + 3 * k + 5 < _; omega, by have := r.un; show A.units + 1 + 1 + 3 + 16 * k + 200 < _; omega⟩
end
end GX
set_option Elab.async false
set_option linter.all false
set_option maxRecDepth 100000
set_option maxHeartbeats 4000000
namespace VL
noncomputable section
open PySem PySem.Spec PyProof.Rows L2
variable [CM]
section
variable {K : PySem.W.Frag} {c : VC} {Wx : WX} {X : Cx}
theorem Rl.rest {f : Fm} {Hb1 Hb2 H1 H2 : Hp} {env1 env2 : Env} {σ : L2.St} {vs : List Nat} (R1 : Rl K c f Hb1 env1 σ H1) (hv : okVs c vs env1) (R3 : Rl K c f Hb2 env2 (L2.wipe σ vs) H2) (s2 : Same Hb1 Hb2) : Rl K c f Hb2 (restE env1 env2 vs) σ H2 := by
  have ownD : ∀ {j : Nat} {oc : OC}, (restE env1 env2 vs)[j]? = some (some (.own oc)) → j ∉ vs ∧ env2[j]? = some (some (.own oc)) := fun {j oc} e => by
    rcases restE_get _ _ _ _ _ e with ⟨h1, h2⟩ | h
    · exact ((hv j h1).2 oc h2).elim
    · exact h
  refine ⟨by rw [restE_len, ← R3.len, wipe_length], fun {j d} e => ?_, fun {j oc} e => ?_, fun {i j o1 o2 b} e1 e2 e3 e4 => ?_, R3.sub, R3.frm, R3.frb, R3.tab, R1.fix, R3.xv⟩
  · rcases restE_get _ _ _ _ _ e with ⟨h1, h2⟩ | ⟨h1, h2⟩
    · obtain ⟨v, h3, h4⟩ := R1.val h2
      exact ⟨v, h3, h4.mn s2⟩
    · obtain ⟨v, h3, h4⟩ := R3.val h2
      rw [wipe_out h1] at h3
      exact ⟨v, h3, h4⟩
  · obtain ⟨h1, h2⟩ := ownD e
    obtain ⟨a, h3, h4⟩ := R3.own h2
    rw [wipe_out h1] at h3
    exact ⟨a, h3, h4⟩
  · obtain ⟨h1, h2⟩ := ownD e1
    obtain ⟨h3, h4⟩ := ownD e2
    exact R3.inj h2 h4 (by rw [wipe_out h1]; exact e3) (by rw [wipe_out h3]; exact e4)
theorem Rl.tabbed {f : Fm} {Hb H H2 : Hp} {env : Env} {σ : L2.St} {P : Addr} (R : Rl K c f Hb env σ H) (hP : P ∈ c.T) (t : GxR.Tabbed P H H2) : Rl K c f Hb env σ H2 := by
  obtain ⟨t1, t2⟩ := t
  obtain ⟨g1, g2, g3⟩ := R.tab P hP
  refine ⟨R.len, R.val, fun {i oc} e => ?_, R.inj, fun b o e => ?_, fun b o e => ?_, R.frb, fun P' hP' => ?_, R.fix, R.xv⟩
  · obtain ⟨a, h1, h2, h3, h4⟩ := R.own e
    have ne : a ≠ P := fun z => h4.notab g1 z.symm
    exact ⟨a, h1, h2, h3, h4.mn (Same.refl _) fun o q => by rw [t2 a ne]; exact q⟩
  · rw [t2 b (ne_of_none e g2)]; exact R.sub b o e
  · rw [t2 b (ne_of_none e g3)]; exact R.frm b o e
  · obtain ⟨h1, h2, h3⟩ := R.tab P' hP'
    by_cases z : P' = P
    · subst z; exact ⟨t1, h2, h3⟩
    · obtain ⟨ps, e, w⟩ := h1
      exact ⟨⟨ps, by rw [t2 P' z]; exact e, w⟩, h2, h3⟩
def elA (vs : List Nat) : R Env W → R Env Bool
  | .ok (.val (.bl b)) e => .ok b (wipeE e vs)
  | _ => .no
@[simp] theorem elA_b {vs : List Nat} {b : Bool} {e : Env} : elA vs (.ok (.val (.bl b)) e) = .ok b (wipeE e vs) := rfl
def turnA1 (el : ME) (vs : List Nat) : Option Env → R Env Bool
  | some e => elA vs (el e)
  | none => .no
@[simp] theorem turnA1_s {el : ME} {vs : List Nat} {e : Env} : turnA1 el vs (some e) = elA vs (el e) := rfl
@[simp] def turnA (g : GM) (el : ME) (vs : List Nat) (d : D) (e : Env) : R Env Bool := turnA1 el vs (g d e)
def allK (isAll : Bool) (rec : Env → R Env Bool) : R Env Bool → R Env Bool
  | .ok b e => if b = isAll then rec e else .ok (!isAll) e
  | .ex C fs s => .ex C fs s
  | .no => .no
def allM (isAll : Bool) (g : GM) (el : ME) (vs : List Nat) : List D → Env → R Env Bool
  | [], e => .ok isAll e
  | d :: ds, e => allK isAll (allM isAll g el vs ds) (turnA g el vs d e)
def ag3 (e0 : Env) (vs : List Nat) : R Env Bool → R Env W
  | .ok b e => .ok (.val (.bl b)) (restE e0 e vs)
  | _ => .no
@[simp] theorem ag3_c {e0 e : Env} {vs : List Nat} {b : Bool} : ag3 e0 vs (.ok b e) = .ok (.val (.bl b)) (restE e0 e vs) := rfl
def ag2 (e0 : Env) (vs : List Nat) (r : R Env Bool) : Bool → R Env W
  | true => ag3 e0 vs r
  | false => .no
@[simp] theorem ag2_c {e0 : Env} {vs : List Nat} {r : R Env Bool} : ag2 e0 vs r true = ag3 e0 vs r := rfl
def ag1 (isAll : Bool) (fx : List Nat) (g : GM) (el : ME) (vs : List Nat) : R Env (List D) → R Env W
  | .ok ds e => ag2 e vs (allM isAll g el vs ds (wipeE e vs)) (okE fx vs e)
  | .ex C fs s => .ex C fs s
  | .no => .no
@[simp] theorem ag1_c {isAll : Bool} {fx : List Nat} {g : GM} {el : ME} {vs : List Nat} {ds : List D} {e : Env} : ag1 isAll fx g el vs (.ok ds e) = ag2 e vs (allM isAll g el vs ds (wipeE e vs)) (okE fx vs e) := rfl
@[simp] def mAG (isAll : Bool) (fx : List Nat) (it : MI) (g : GM) (el : ME) (vs : List Nat) (e : Env) : R Env W := ag1 isAll fx g el vs (it e)
theorem allM_cons {isAll : Bool} {g : GM} {el : ME} {vs : List Nat} {d : D} {ds : List D} {e : Env} : allM isAll g el vs (d :: ds) e = allK isAll (allM isAll g el vs ds) (turnA g el vs d e) := rfl
theorem all_of {ι : Type} {g : GM} {el : ME} {vs : List Nat} {e : Env} (en : ι → D) (p : ι → Bool) : ∀ xs : List ι, (∀ x ∈ xs, turnA g el vs (en x) e = .ok (p x) e) → allM true g el vs (xs.map en) e = .ok (xs.all p) e
  | [], _ => rfl
  | x :: xs, h => by
    rw [List.map_cons, allM_cons, h x (List.mem_cons_self ..), List.all_cons]
    have ih := all_of en p xs fun y hy => h y (List.mem_cons_of_mem _ hy)
    cases hp : p x with
    | true => simpa [allK] using ih
    | false => simp [allK]
theorem sim_ag {isAll : Bool} {P : Addr} {wi : TI} {it : MI} {g : TG} {gm : GM} {te : TE} {el : ME} {ss vs : List Nat} (hP : P ∈ c.T) (hss : ∀ j ∈ ss, j ∈ vs) (hi : SimI K c Wx wi (vR it)) (hg : SimG K c ss g (vGm gm)) (he : SimE K c W0 te (vR el)) : SimE K c Wx (GX.tAG isAll P wi g te vs) (vR (mAG isAll c.fx it gm el vs)) := by
  intro f Hb env σ H Q QX Q' R q px k
  have q : (ag1 isAll c.fx gm el vs (it env)).po Q QX := q
  refine hi f Hb env σ H (fun ds e => okVs c vs e ∧ (allM isAll gm el vs ds (wipeE e vs)).po (fun b e2 => Q (.val (.bl b)) (restE e e2 vs)) noX) QX _ R ?_ px fun items env1 J H1 Hb1 s1 R1 itk q1 => ?_
  · show (it env).po _ QX
    cases hA : it env with
    | ex C fs s => rw [hA] at q; exact q
    | no => rw [hA] at q; exact q
    | ok ds e =>
      rw [hA] at q
      have q : (ag2 e vs (allM isAll gm el vs ds (wipeE e vs)) (okE c.fx vs e)).po Q QX := q
      cases hK : okE c.fx vs e with
      | false => rw [hK] at q; exact q.elim
      | true =>
        rw [hK] at q
        have q : (ag3 e vs (allM isAll gm el vs ds (wipeE e vs))).po Q QX := q
        refine ⟨okE_of hK, ?_⟩
        cases hB : allM isAll gm el vs ds (wipeE e vs) with
        | ex C fs s => rw [hB] at q; exact q.elim
        | no => rw [hB] at q; exact q
        | ok b e2 => rw [hB] at q; exact q
  · obtain ⟨hv, q1⟩ := q1
    refine ⟨(R1.tab P hP).1, fun H2 ht => ?_⟩
    have Rw := (R1.tabbed hP ht).wipe fun v hv' => (hv v hv').1
    refine ⟨fun i m H' => ∃ env' Hb', Same Hb1 Hb' ∧ Rl K c f Hb' env' (L2.wipe σ vs) H' ∧ m = items.length - i ∧ i ≤ items.length ∧ (allM isAll gm el vs (items.drop i) env').po (fun b e2 => Q (.val (.bl b)) (restE env1 e2 vs)) noX, ⟨items.length, _, Hb1, Same.refl _, Rw, by simp, Nat.zero_le _, q1⟩, ?_⟩
    rintro i m H3 ⟨env3, Hb3, s3, R3, rfl, hi3, q3⟩
    have fin : ∀ {b : Bool} {e2 : Env} {H' Hb' : Hp}, Same Hb1 Hb' → Rl K c f Hb' e2 (L2.wipe σ vs) H' → Q (.val (.bl b)) (restE env1 e2 vs) → Q' (.bl b) H' := fun {b e2 H' Hb'} s R' q => k (.val (.bl b)) _ _ _ _ (s1.trans s) (R1.rest hv R' s) (.bl b) q
    by_cases hlt : i < items.length
    · rw [List.drop_eq_getElem_cons hlt, allM_cons] at q3
      refine .inr ⟨itk.go i Hb3 H3 s3 R3.sub hlt, fun x H4 hy => ?_⟩
      obtain ⟨Hb4, x4, r4⟩ := itk.yld i _ x Hb3 H3 H4 s3 R3.sub (List.getElem?_eq_getElem hlt) hy
      have q3 : (allK isAll (allM isAll gm el vs (items.drop (i + 1))) (turnA1 el vs (gm items[i] env3))).po (fun b e2 => Q (.val (.bl b)) (restE env1 e2 vs)) noX := q3
      refine hg f Hb4 env3 _ H4 _ x (fun e => (allK isAll (allM isAll gm el vs (items.drop (i + 1))) (elA vs (el e))).po (fun b e2 => Q (.val (.bl b)) (restE env1 e2 vs)) noX) _ (R3.ext x4) r4 ?_ fun env5 σ5 H5 Hb5 s5 R5 n5 q5 => ?_
      · show poO _ (gm items[i] env3)
        cases hG : gm items[i] env3 with
        | none => rw [hG] at q3; exact q3
        | some e => rw [hG] at q3; exact q3
      · have hw : L2.wipe σ5 vs = L2.wipe σ vs := by
          rw [← wipe_wipe (σ := σ)]
          exact wipe_eq n5.1 fun j hj => n5.2 j fun z => hj (hss j z)
        refine ⟨hw, ?_⟩
        refine he f Hb5 env5 σ5 H5 (fun w e => (allK isAll (allM isAll gm el vs (items.drop (i + 1))) (elA vs (.ok w e))).po (fun b e2 => Q (.val (.bl b)) (restE env1 e2 vs)) noX) noX _ R5 ?_ px0 fun w env6 v6 H6 Hb6 s6 R6 r6 q6 => ?_
        · show (el env5).po _ noX
          cases hE : el env5 with
          | ex C fs s => rw [hE] at q5; exact q5
          | no => rw [hE] at q5; exact q5
          | ok w e => rw [hE] at q5; exact q5
        · have ss := s3.trans ((x4.b.trans s5).trans s6)
          have Rn : Rl K c f Hb6 (wipeE env6 vs) (L2.wipe σ vs) H6 := by
            rw [← hw]
            exact R6.wipe fun v hv' => (hv v hv').1
          cases w with
          | cel j => exact q6.elim
          | tmp oc => exact q6.elim
          | val d =>
            cases d with
            | bl b =>
              cases r6
              have q6 : (if b = isAll then allM isAll gm el vs (items.drop (i + 1)) (wipeE env6 vs) else .ok (!isAll) (wipeE env6 vs)).po (fun b e2 => Q (.val (.bl b)) (restE env1 e2 vs)) noX := q6
              refine ⟨b, rfl, ?_⟩
              by_cases hb : b = isAll
              · rw [if_pos hb] at q6 ⊢
                exact ⟨items.length - (i + 1), by omega, _, Hb6, ss, Rn, rfl, hlt, q6⟩
              · rw [if_neg hb] at q6 ⊢
                exact fin ss Rn q6
            | _ => exact q6.elim
    · have hi4 : i = items.length := by omega
      rw [hi4, List.drop_length] at q3
      exact .inl ⟨itk.stop i Hb3 H3 s3 R3.sub (by omega), fin s3 R3 q3⟩
structure GBlk (X : Cx) (c : VC) (scope : Scope) (own : List (Str × Nat)) (ss : List Nat) (tg elt : Expr) (g : TG) (gm : GM) (te : TE) (el : ME) : Prop where
  ok : BlkOk X.N X.env.scope scope own
  sub : ∀ j ∈ ss, j ∈ own.map (·.2)
  cell : ∀ y ∈ scope.names, y.2 ≠ .cell
  dot : scope.names.lookup (".0" : Str) = some NameKind.local
  co : scope.isCoroutine = false
  nd : (".0" : Str) ∉ X.N
  g : ∀ (s : Shared) (H : Hp) (C : Addr) (cl : List (Str × Addr)) (code : Value) (fp : List Addr), VGt (GX.gcx X s H (genEnv scope cl C code builtinsNs X.env) fp (GX.gA X.A (genEnv scope cl C code builtinsNs X.env))) c ss tg g (vGm gm)
  e : ∀ (s : Shared) (H : Hp) (C : Addr) (cl : List (Str × Addr)) (code : Value) (fp : List Addr), VE (GX.gcx X s H (genEnv scope cl C code builtinsNs X.env) fp (GX.gA X.A (genEnv scope cl C code builtinsNs X.env))) c W0 elt te (vR el)
theorem GBlk.sim {isAll : Bool} {P : Addr} {scope : Scope} {own : List (Str × Nat)} {ss : List Nat} {tg elt iter : Expr} {g : TG} {gm : GM} {te : TE} {el : ME} {wi : TI} {it : MI} (B : GBlk X c scope own ss tg elt g gm te el) (hP : P ∈ c.T) (hi : FI X c Wx tg iter wi it) :
    SimE X.K c Wx (GX.tAG isAll P wi g te (own.map (·.2))) (vR (mAG isAll c.fx it gm el (own.map (·.2)))) :=
  sim_ag hP B.sub hi.sim (B.g {} (fun _ => none) 0 [] .none []).sim (B.e {} (fun _ => none) 0 [] .none []).sim
theorem fe_allG {cA P : Addr} {k : Nat} {vs : List Nat} {scope : Scope} {own : List (Str × Nat)} {ss : List Nat} {tg elt iter : Expr} {g : TG} {gm : GM} {te : TE} {el : ME} {wi : TI} {it : MI} {p pos gpos : Pos} (hr : Room k X.A) (hm : X.mg "all" = none) (TB : GxR.TabB X.base X.mg cA P) (hcode : X.env.code = .ref cA) (hP : P ∈ c.T) (nd : X.N.Nodup)
    (hi : FI X c Wx tg iter wi it) (B : GBlk X c scope own ss tg elt g gm te el) (hc : X.calm = true := by rfl) (hg : Gl X "all" := by rfl) (hs : ∀ v, genFold iter X.env v = pure v := by intro _; rfl)
    (he : starEach [.GeneratorExp elt [⟨tg, iter, [], 0⟩] scope gpos] X.env = (false, eval (.GeneratorExp elt [⟨tg, iter, [], 0⟩] scope gpos) X.env) :: starEach [] X.env := by rfl) (hvs : own.map (·.2) = vs := by rfl) :
    FE X c Wx (.Call (.Name "all" p) [.GeneratorExp elt [⟨tg, iter, [], 0⟩] scope gpos] [] pos) (GX.tAG true P wi g te (own.map (·.2))) (mAG true c.fx it gm el vs) := by
  subst hvs
  exact ⟨GX.pe_allG hr hc hg hm TB hcode B.ok B.cell B.dot B.co nd B.nd hi.pi (fun s H C cl code fp => (B.g s H C cl code fp).pg) (fun s H C cl code fp => (B.e s H C cl code fp).pe) hs he, B.sim hP hi⟩
end
@[simp] def toV : D → V
  | .int i => .int i
  | .str x => .str x
  | _ => .non
theorem glob_tup {K : PySem.W.Frag} {mg : Str → Option Value} {x : Str} {a : Addr} {n : Nat} {sl : Array (Option Value)} {its : Array Value} (ds : List D) (h : mg x = some (.ref a)) (l : K.lookup a = some ⟨.type "tuple", none, .seq its n, sl⟩) (hz : ∀ d ∈ ds, (∃ i, d = .int i) ∨ ∃ s, d = .str s) (hs : its.size ≤ sizeLine) (hv : Vals (ds.map toV) its.toList) : GlobK K mg x (.tup ds) (.ref a) :=
  ⟨⟨_, h, rfl⟩, fun H => .tup (vs := ds.map toV) ⟨.inr ⟨_, _, _, l, rfl, rfl, hs, hv⟩, .inr ⟨_, l, rfl⟩⟩ (by
    clear hv
    induction ds with
    | nil => exact .nil
    | cons d ds ih =>
      refine .cons ?_ (ih fun d hd => hz d (List.mem_cons_of_mem _ hd))
      rcases hz d (List.mem_cons_self ..) with ⟨i, rfl⟩ | ⟨s, rfl⟩
      · exact .int i
      · exact .str s)⟩
theorem Callee.none0 {P : Program} {w : World} {K : PySem.W.Frag} {mg : Str → Option Value} {base : Heap} {T : List Addr} {x : Str} {st : Stmt} {k : Nat} {ps : List Str} {f : Addr} {fd : FuncData} {Fn : FN} (F : FunB K mg x st ps f fd) (hF : ∀ ms, Fn ms = .no := by intro _; rfl) : Callee P w K mg base T x k ps (spF Fn) f fd := by
  have no : ∀ {vs H Q E}, spOf K T (spF Fn) vs H Q E → False := fun h => by
    obtain ⟨_, _, _, _, _, h, _⟩ := h
    unfold spF at h
    rw [hF] at h
    exact h
  exact ⟨⟨fun vs H Q E h => (no h).elim, fun A outer s H args us vs Q E _ _ _ _ h => (no h).elim⟩, F.g, F.b, F.F.kp⟩
structure FunG (K : PySem.W.Frag) (mg : Str → Option Value) (x : Str) (st : Stmt) (ps : List Str) (f : Addr) (fd : FuncData) (cA : Addr) : Prop where
  F : FunC K (fun v => v = .ref cA) x x st f fd
  g : mg x = some (.ref f)
  b : Binds K fd ps []
  kp : PySem.W.keepIn K (.ref f) = true
section
variable {P : Program} {w : World} {K : PySem.W.Frag} {mg : Str → Option Value} {base : Heap}
theorem spF_ok {F : FN} {np n : Nat} {fx : List Nat} {m : MS} (hF : F = fnM np n fx m) {ms : List M} {A : W → List M → Prop} {B : Str → List (Str × D) → List M → Prop} (h : spF F ms A B) : (ms.length = np ∧ ∀ i oc, ms[i]? = some (.own oc) → i ∈ fx) ∧ vS m (endsOf ms A B) (start0 n ms) := by
  subst hF
  have h1 : (ms.length == np && modeB fx ms 0) = true := by
    unfold spF at h
    simp only [fnM] at h
    cases hb : (ms.length == np && modeB fx ms 0) with
    | true => rfl
    | false => rw [hb] at h; exact h.elim
  refine ⟨?_, ?_⟩
  · simp only [Bool.and_eq_true, beq_iff_eq] at h1
    exact hl0 h1.1 (modeB_of h1.2)
  · unfold spF at h
    simp only [fnM] at h
    rw [h1] at h
    show (m (start0 n ms)).po (endsOf ms A B)
    cases hA : m (start0 n ms) with
    | nx e =>
      rw [hA] at h
      dsimp only [fn1, fn2] at h
      cases ho : outsOf ms 0 e with
      | none => rw [ho] at h; exact h.elim
      | some os => rw [ho] at h; exact ⟨os, ho, h⟩
    | rt w e =>
      rw [hA] at h
      cases w with
      | val d =>
        dsimp only [fn1, fn2] at h
        cases ho : outsOf ms 0 e with
        | none => rw [ho] at h; exact h.elim
        | some os => rw [ho] at h; exact ⟨os, ho, h⟩
      | tmp d =>
        dsimp only [fn1, fn2] at h
        cases ho : outsOf ms 0 e with
        | none => rw [ho] at h; exact h.elim
        | some os => rw [ho] at h; exact ⟨os, ho, h⟩
      | cel i => exact h.elim
    | ex C fs e =>
      rw [hA] at h
      dsimp only [fn1, fn2] at h
      cases ho : outsOf ms 0 e with
      | none => rw [ho] at h; exact h.elim
      | some os => rw [ho] at h; exact ⟨os, ho, h⟩
    | bk e => rw [hA] at h; exact h.elim
    | ct e => rw [hA] at h; exact h.elim
    | no => rw [hA] at h; exact h.elim
theorem fl_fnG {x : Str} {st : Stmt} {f : Addr} {fd : FuncData} {N ps : List Str} {k : Nat} {T : List Addr} {fx : List Nat} {F : FN} {cA : Addr} (np n : Nat) (m : MS) (hF : F = fnM np n fx m) (FB : FunG K mg x st ps f fd cA) (S : FnScope N ps (defScope st)) (hnp : ps.length = np) (hn : N.length = n)
    (hfx : ∀ i ∈ fx, i < ps.length)
    (hbody : ∀ (cdv : Value), cdv = .ref cA → ∀ (A : Around) (outer : List PySem.Env) (s : Shared) (H : Hp) (E : XK), Room k (A.deeper (envOfC x (defScope st) s.heap.objs.size f cdv)) →
      ∃ ts, FSs (cxOf (L2N.CX P w) P w K mg base N x (defScope st) f cdv A outer s H E) ⟨T, fx, []⟩ (fun cls d _ H => E cls d H) (defBody st) ts m) : Callee P w K mg base T x (k + 1) ps (spF F) f fd := by
  subst hnp hn
  exact ⟨vl_okC (c := ⟨T, fx, []⟩) FB.F S hfx (fun ms A B h => (spF_ok hF h).1) hbody (fun ms A B h => (spF_ok hF h).2), FB.g, FB.b, FB.kp⟩
end
end
end VL
set_option Elab.async false
set_option linter.all false
set_option maxRecDepth 100000
set_option maxHeartbeats 4000000
namespace VL
open PySem PySem.Spec PyProof.Rows L2 LamX
theorem walk_ofTabs {l : PySem.W.OpenLaw} {n k : Nat} {q : Program} {loose : List Str} {XP : (Str → Option Value) → Heap → Prop} {YP : World → Heap → Prop} {d : DefRec} {K : Params → PySem.W.Frag} {CX : World → CXT} {x : Str} (names : List Str)
    (hn : l.most = some n) (hn2 : n ≤ sizeLine) (hdf : d.params.defaults = []) (hr : Room k callerA) (hrec : (names.all fun x => (recsOf q).any fun e => e.name == x) = true) (hY : ∀ (w : World) (h : Heap), YP w h → (K w.params).In h)
    (F : ∀ (w : World) (mg : Str → Option Value) (fa : Addr) (h : Heap), YP w h → (K w.params).In h → h.Ns mainGlobals mg → mg d.name = some (.ref fa) → (∀ y ∈ names, ∀ fb : Addr, mg y = some (.ref fb) → OwnTab (K w.params) fb h) → LawAtS l w (K w.params) (CX w) k n x mg fa h)
    (hCX : ∀ (w : World) (H : Hp) (s : Shared) (e : Value) (s' : Shared), CX w [] H s (fun _ _ _ => False) e s' → False) :
    PySem.W.WalkO q loose XP YP l.row.toRowW d [] (fun f vs => PySem.call f vs) := by
  refine Att.attach_callB hn hdf fun w s₀ s₁ mg mb fa o pm cd doc a vs ns G Y ho hd hcd hmg hobj hints hlen hbits hg => ?_
  have KX := hY w _ Y
  have own : ∀ y ∈ names, ∀ fb : Addr, mg y = some (.ref fb) → OwnTab (K w.params) fb s₁.heap := fun y hy fb hfb c P o1 fd1 e dd vs1 sl k1 k2 k3 k4 k5 => by
    obtain ⟨dL, hm, hn1⟩ := List.any_eq_true.mp (List.all_eq_true.mp hrec y hy)
    have hn2 : dL.name = y := beq_iff_eq.mp hn1
    obtain ⟨a', o', fd', c', P', h1, h2, h3, h4, h5, h6⟩ := G.T.tab dL hm
    rw [hn2, hfb] at h1
    cases h1
    have g1 := KX _ _ k1
    rw [g1] at h2
    cases h2
    rw [k2] at h3
    cases h3
    rw [k3] at h4
    cases h4
    obtain ⟨⟨oc, vc, e1, _, e3, e4⟩, hP⟩ := h6
    have g2 := KX _ _ k4
    rw [g2] at e1
    cases e1
    cases e3
    rw [k5] at e4
    cases e4
    exact hP
  obtain ⟨fd, cs, sp, hT, nT, C, hb, hsp, hF⟩ := F w mg fa _ Y KX G.T.g hmg own
  exact law_callTs KX G.T.g G.T.b G.T.builtins G.T.nolimit hg hT nT C G.T.bmain hobj hints (Nat.le_trans hlen hn2) hr hF hb (fun H hH hS => hsp H a ns hlen hbits hH hS) fun H e s' => hCX w H s₁ e s'
structure TabK (K : PySem.W.Frag) (h : Heap) (c P : Addr) : Prop where
  tab : h.get? P = some { cls := .none, data := .fields #[] }
  nil : K.lookup P = none
  hd : PySem.W.CodeHd h c P
theorem tabK_of {K : PySem.W.Frag} {h : Heap} {mg : Str → Option Value} {x : Str} {fa c P : Addr} {o : Obj} {fd : FuncData} {e : Value} {dd : Option Addr} {vs : Array Value} {sl : Array (Option Value)} (KX : K.In h) (own : ∀ fb : Addr, mg x = some (.ref fb) → OwnTab K fb h) (hm : mg x = some (.ref fa)) (k1 : K.lookup fa = some o) (k2 : o.data = .func fd) (k3 : fd.code = .ref c)
    (k4 : K.lookup c = some ⟨e, dd, .fields vs, sl⟩) (k5 : vs[11]? = some (.ref P)) (k6 : PySem.W.codeHdIn K c P = true) (k7 : K.lookup P = none) : TabK K h c P :=
  ⟨own fa hm c P o fd e dd vs sl k1 k2 k3 k4 k5, k7, PySem.W.codeHd_of_K KX k6⟩
variable [CM]
theorem law_startT {K : PySem.W.Frag} {H : Hp} {a : Addr} {ns : List Int} {cs : List (Addr × Addr)} {F : FN} (hF : ∃ outs, F [.val (.scr (ns.map D.int))] = .ok (.val (.bl true)) outs) (hH : ∀ p ∈ cs, H p.2 = some (.tbl #[])) (h3 : SqL K H a (ns.map V.int)) : spOf K (cs.map (·.2)) (spF F) [.ref a] H (fun v _ => v = .bl true) fun _ _ _ => False := by
  let Hb : Hp := fun b => if b ∈ cs.map (·.2) then none else H b
  have isT : ∀ b, b ∈ cs.map (·.2) → H b = some (.tbl #[]) := fun b hb => by
    obtain ⟨p, hp, e⟩ := List.mem_map.mp hb
    rw [← e]; exact hH p hp
  have sub : Same Hb H := fun b o e => by
    have e : (if b ∈ cs.map (·.2) then none else H b) = some o := e
    split at e
    · cases e
    · exact e
  have sq : SqL K Hb a (ns.map V.int) := by
    rcases h3 with (h | ⟨o, h⟩) | h
    · refine .inl (.inl ?_)
      have : a ∉ cs.map (·.2) := fun z => by rw [isT a z] at h; cases h
      exact (if_neg this).trans h
    · refine .inl (.inr ⟨o, ?_⟩)
      have : a ∉ cs.map (·.2) := fun z => by rw [isT a z] at h; cases h
      exact (if_neg this).trans h
    · exact .inr h
  obtain ⟨outs, hF⟩ := hF
  refine ⟨Hb, [.val (.scr (ns.map D.int))], fun w _ => w = .val (.bl true), fun _ _ _ => False, ⟨sub, .cons (.scr sq (RpL.ofInts ns)) .nil, List.nodup_nil, fun P hP => ⟨⟨#[], isT P hP, trivial⟩, if_pos hP⟩⟩, ?_, ?_, fun _ _ _ h => h.elim⟩
  · unfold spF
    rw [hF]
  · rintro w outs rfl v H' Hb' _ r
    have r : Rp K Hb' (.bl true) v := r
    cases r
    rfl
omit [CM] in
theorem tbG {base : Heap} {mg : Str → Option Value} {c P : Addr} (q : LamX.TabB base mg c P) : GxR.TabB base mg c P := ⟨q.code, q.bm, q.gP⟩
omit [CM] in
theorem codeHd_mk {K : PySem.W.Frag} {c P : Addr} {o : Obj} (h : K.lookup c = some o) (e : PySem.W.codeHdIn [(c, o)] c P = true) : PySem.W.codeHdIn K c P = true := by
  have e2 : List.lookup c ([(c, o)] : PySem.W.Frag) = some o := by simp [List.lookup]
  unfold PySem.W.codeHdIn at e ⊢
  rw [h]
  rwa [e2] at e
end VL
set_option Elab.async false
set_option linter.all false
set_option maxRecDepth 100000
set_option maxHeartbeats 4000000
namespace VL
open PySem PySem.Spec PyProof.Rows L2
noncomputable def F_law_cell : FN := fnM 2 2 [] (mSeq (mIfS (mTst (mOp fLt (mName 1) (mCB fLen (mCons (mName 0) mNil)))) (mRet [] (mCB fInt (mCons (mOp fIx (mName 0) (mName 1)) mNil))) mNext)
    (mRet [] (mC (.int 0))))
noncomputable def F_law_digits : FN := fnM 2 5 [] (mSeq (mOwn 2 (mLst mNil))
    (mSeq (mIfS (mTst (mOp fLt (mName 0) (mC (.int 0)))) (mSet 0 (mOp fSub (mC (.int 1)) (mOp fMul (mC (.int 2)) (mName 0)))) mNext)
    (mSeq (mKill [0, 3, 4] (mIfS (mTst (mOp fGe (mName 0) (mOp fPow (mC (.int 10)) (mC (.int 18))))) (mKill [0] (mFor (mRng (mCons (mC (.int 60)) mNil)) (gmName 3) (mKill [3] (mIfS (mTst (mOp fGt (mName 0) (mC (.int 0)))) (mSeq (mExpr (mApp (mName 2) (mOp fMod (mCB fInt (mCons (mName 0) mNil)) (mC (.int 1000)))))
    (mSet 0 (mOp fDiv (mName 0) (mC (.int 1000))))) mNext)))) (mSeq (mSet 4 (mOp fMod (mCB fInt (mCons (mOp fAdd (mOp fAdd (mOp fMul (mName 0) (mC (.int 48271))) (mOp fMul (mName 1) (mC (.int 69621)))) (mC (.int 11))) mNil)) (mC (.int 2147483647))))
    (mKill [4] (mFor (mRng (mCons (mC (.int 60)) mNil)) (gmName 3) (mKill [3] (mSeq (mSet 4 (mOp fMod (mCB fInt (mCons (mOp fAdd (mOp fAdd (mOp fMul (mName 4) (mC (.int 16807))) (mOp fMul (mC (.int 7)) (mName 3))) (mC (.int 1))) mNil)) (mC (.int 2147483647))))
    (mExpr (mApp (mName 2) (mOp fMod (mCB fInt (mCons (mOp fDiv (mName 4) (mC (.int 997))) mNil)) (mC (.int 1000))))))))))))
    (mRet [] (mName 2)))))
noncomputable def F_law_draw : FN := fnM 2 3 [0] (mSeq (mSet 2 (mOp fIx (mName 0) (mC (.int 1))))
    (mSeq (mAsg (mOp fAdd (mName 2) (mC (.int 1))) (gmSub (mName 0) (mC (.int 1))))
    (mSeq (mIfS (mTst (mOp fLt (mName 2) (mCB fLen (mCons (mOp fIx (mName 0) (mC (.int 0))) mNil)))) (mRet [0] (mOp fMod (mCB fInt (mCons (mOp fIx (mOp fIx (mName 0) (mC (.int 0))) (mName 2)) mNil)) (mName 1))) mNext)
    (mRet [0] (mC (.int 0))))))
noncomputable def F_law_box : FN := fnM 2 2 [] (mRet [] (mLst (mCons (mCall F_law_digits (mCons (mCall F_law_cell (mCons (mName 0) (mCons (mName 1) mNil))) (mCons (mName 1) mNil))) (mCons (mC (.int 0)) mNil))))
noncomputable def F_law_is_integer : FN := fnM 1 1 [] (mRet [] (mAndV (mIsi .int (mName 0)) (mNotV (mIsi .bool (mName 0)))))
noncomputable def F_law_same_b (R : FN) : FN := fnM 2 3 [] (mSeq (mIfS (mTst (mIsi .tuple (mName 1))) (mSeq (mIfS (mOrT (mNotT (mTst (mIsi .tuple (mName 0)))) (mTst (mOp (fEq true) (mCB fLen (mCons (mName 0) mNil)) (mCB fLen (mCons (mName 1) mNil))))) (mRet [] (mC (.bl false))) mNext)
    (mRet [] (mCB fAll (mCons (mLc [] (mRng (mCons (mCB fLen (mCons (mName 1) mNil)) mNil)) (gmName 2) mYes (mCall R (mCons (mOp fIx (mName 0) (mName 2)) (mCons (mOp fIx (mName 1) (mName 2)) mNil))) [2]) mNil)))) mNext)
    (mSeq (mIfS (mTst (mIsi .bool (mName 1))) (mRet [] (mAndV (mIsi .bool (mName 0)) (mOp (fEq false) (mName 0) (mName 1)))) mNext)
    (mSeq (mIfS (mTst (mIsi .int (mName 1))) (mRet [] (mAndV (mCall F_law_is_integer (mCons (mName 0) mNil)) (mOp (fEq false) (mName 0) (mName 1)))) mNext)
    (mSeq (mIfS (mTst (mIsi .str (mName 1))) (mRet [] (mAndV (mIsi .str (mName 0)) (mOp (fEq false) (mName 0) (mName 1)))) mNext)
    (mRet [] (mAndV (mOp (fIsN false) (mName 0) (mC .non)) (mOp (fIsN false) (mName 1) (mC .non))))))))
noncomputable def F_law_same : Nat → FN
  | 0 => fun _ => .no
  | n + 1 => F_law_same_b (F_law_same n)
variable [CM]
abbrev iD (ns : List Int) : List D := ns.map D.int
def boxD (ds : List Int) (k : Nat) : OC := .lst [.lst (iD ds), .int (k : Int)]
def drawV (ds : List Int) (k : Nat) (m : Int) : Int := if k < ds.length then (ds.getD k 0).fmod m else 0
theorem atI_iD {ns : List Int} {k : Int} (h0 : 0 ≤ k) (h : k < ns.length) : atI (iD ns) k = some (.int (ns.getD k.toNat 0)) := by
  obtain ⟨j, rfl⟩ : ∃ j : Nat, k = j := ⟨k.toNat, by omega⟩
  have hj : j < ns.length := by omega
  refine atI_nat ?_
  rw [List.getElem?_map, List.getElem?_eq_getElem hj]
  simp [hj]
def cellV (ns : List Int) (k : Int) : Int := if k < ns.length then ns.getD k.toNat 0 else 0
theorem law_cell_eq {ns : List Int} {k : Int} (h0 : 0 ≤ k) : F_law_cell [.val (.scr (iD ns)), .val (.int k)] = .ok (.val (.int (cellV ns k))) [.val (.scr (iD ns)), .val (.int k)] := by
  unfold cellV
  by_cases h : k < ns.length
  · simp [F_law_cell, h, atI_iD h0 h]
  · simp [F_law_cell, h]
theorem law_draw_eq {ds : List Int} {k : Nat} {m : Int} (hm : m ≠ 0) : F_law_draw [.own (boxD ds k), .val (.int m)] = .ok (.val (.int (drawV ds k m))) [.own (boxD ds (k + 1)), .val (.int m)] := by
  by_cases h : k < ds.length
  · have h' : (k : Int) < ds.length := by omega
    simp [F_law_draw, boxD, drawV, h, atI_iD (Int.natCast_nonneg k) h', modI_of hm]
  · have h' : ¬ (k : Int) < ds.length := by omega
    simp [F_law_draw, boxD, drawV, h]
theorem draw_ex (ds : List Int) (k : Nat) {m : Int} (hm : 0 < m) : ∃ r : Nat, (r : Int) < m ∧ drawV ds k m = (r : Int) := by
  have h : 0 ≤ drawV ds k m ∧ drawV ds k m < m := by
    unfold drawV
    split
    · exact ⟨Int.fmod_nonneg_of_pos _ hm, Int.fmod_lt_of_pos _ hm⟩
    · exact ⟨Int.le_refl _, hm⟩
  exact ⟨(drawV ds k m).toNat, by omega, by omega⟩
theorem law_digits_ex (c at_ : Int) : ∃ ds : List Int, ds.length ≤ 60 ∧ F_law_digits [.val (.int c), .val (.int at_)] = .ok (.tmp (.lst (iD ds))) [.val (.int c), .val (.int at_)] := by
  have pre : ∃ c' : Int, F_law_digits [.val (.int c), .val (.int at_)] = fn2 [.val (.int c), .val (.int at_)] (seqK (mRet [] (mName 2)) (killS [0, 3, 4] (ifS (mKill [0] (mFor (mRng (mCons (mC (.int 60)) mNil)) (gmName 3) (mKill [3] (mIfS (mTst (mOp fGt (mName 0) (mC (.int 0)))) (mSeq (mExpr (mApp (mName 2) (mOp fMod (mCB fInt (mCons (mName 0) mNil)) (mC (.int 1000)))))
    (mSet 0 (mOp fDiv (mName 0) (mC (.int 1000))))) mNext)))) (mSeq (mSet 4 (mOp fMod (mCB fInt (mCons (mOp fAdd (mOp fAdd (mOp fMul (mName 0) (mC (.int 48271))) (mOp fMul (mName 1) (mC (.int 69621)))) (mC (.int 11))) mNil)) (mC (.int 2147483647))))
    (mKill [4] (mFor (mRng (mCons (mC (.int 60)) mNil)) (gmName 3) (mKill [3] (mSeq (mSet 4 (mOp fMod (mCB fInt (mCons (mOp fAdd (mOp fAdd (mOp fMul (mName 4) (mC (.int 16807))) (mOp fMul (mC (.int 7)) (mName 3))) (mC (.int 1))) mNil)) (mC (.int 2147483647))))
    (mExpr (mApp (mName 2) (mOp fMod (mCB fInt (mCons (mOp fDiv (mName 4) (mC (.int 997))) mNil)) (mC (.int 1000)))))))))) (.ok (decide (1000000000000000000 ≤ c')) [some (.val (.int c')), some (.val (.int at_)), some (.own (.lst [])), none, none])))) := by
    by_cases h : c < 0
    · exact ⟨1 - 2 * c, by simp [F_law_digits, h]⟩
    · exact ⟨c, by simp [F_law_digits, h]⟩
  obtain ⟨c', hc'⟩ := pre
  rw [hc']
  clear hc'
  by_cases h : 1000000000000000000 ≤ c'
  · simp [h, rng1_of]
    generalize hr : loopM _ _ _ _ = r
    obtain ⟨e', rfl, c2, ds, rfl, h3⟩ := loop_at hr (fun r e => ∃ (c : Int) (ds : List Int), e = [some (.val (.int c)), some (.val (.int at_)), some (.own (.lst (iD ds))), none, none] ∧ ds.length + r.length ≤ 60) ⟨c', [], rfl, by simp⟩ (by
      rintro d r e r' ⟨c, ds, rfl, hl⟩ hr'
      simp only [List.length_cons] at hl
      by_cases hc : 0 < c
      · have : ds.length < 16777216 := by omega
        simp [hc, this] at hr'
        subst hr'
        exact ⟨_, .inl rfl, c.fdiv 1000, ds ++ [c.fmod 1000], by simp, by simp; omega⟩
      · simp [hc] at hr'
        subst hr'
        exact ⟨_, .inl rfl, c, ds, rfl, by omega⟩)
    exact ⟨ds, by simpa using h3, by simp⟩
  · simp [h, rng1_of, modI_of]
    generalize hr : loopM _ _ _ _ = r
    obtain ⟨e', rfl, c2, ds, is, rfl, _, h3⟩ := loop_at hr (fun r e => ∃ (c : Int) (ds is : List Int), e = [some (.val (.int c')), some (.val (.int at_)), some (.own (.lst (iD ds))), none, some (.val (.int c))] ∧ r = iD is ∧ ds.length + r.length ≤ 60) ⟨_, [], (List.range 60).map fun k : Nat => (k : Int), rfl, by simp, by simp⟩ (by
      rintro d r e r' ⟨c, ds, is, rfl, hi, hl⟩ hr'
      cases is with
      | nil => cases hi
      | cons i is =>
        cases hi
        simp only [List.length_cons, List.length_map] at hl
        have : ds.length < 16777216 := by omega
        simp [this] at hr'
        subst hr'
        exact ⟨_, .inl rfl, _, ds ++ [_], is, by simp; exact ⟨rfl, rfl⟩, rfl, by simp; omega⟩)
    exact ⟨ds, by simpa using h3, by simp⟩
theorem law_box_ex (ns : List Int) {k : Int} (h : 0 ≤ k) : ∃ ds : List Int, ds.length ≤ 60 ∧ F_law_box [.val (.scr (iD ns)), .val (.int k)] = .ok (.tmp (boxD ds 0)) [.val (.scr (iD ns)), .val (.int k)] := by
  obtain ⟨ds, h1, h2⟩ := law_digits_ex (cellV ns k) k
  refine ⟨ds, h1, ?_⟩
  simp [F_law_box, law_cell_eq h, h2, boxD]
def dueOk : Nat → D → Prop
  | _, .int _ => True
  | _, .bl _ => True
  | _, .str _ => True
  | _, .non => True
  | n + 1, .tup ds => ds.length ≤ 1000 ∧ ∀ d ∈ ds, dueOk n d
  | _, _ => False
theorem same_eq (n : Nat) : ∀ d : D, dueOk n d → F_law_same (n + 1) [.val d, .val d] = .ok (.val (.bl true)) [.val d, .val d] := by
  induction n with
  | zero =>
    intro d h
    show F_law_same_b (F_law_same 0) _ = _
    cases d with
    | int i => simp [F_law_same_b, F_law_is_integer]
    | bl b => simp [F_law_same_b]
    | str b => simp [F_law_same_b]
    | non => simp [F_law_same_b]
    | _ => exact h.elim
  | succ n ih =>
    intro d h
    show F_law_same_b (F_law_same (n + 1)) _ = _
    generalize F_law_same (n + 1) = F at ih
    cases d with
    | int i => simp [F_law_same_b, F_law_is_integer]
    | bl b => simp [F_law_same_b]
    | str b => simp [F_law_same_b]
    | non => simp [F_law_same_b]
    | tup ds =>
      have hl : ds.length ≤ 1000 := h.1
      have ih : ∀ d ∈ ds, F [.val d, .val d] = .ok (.val (.bl true)) [.val d, .val d] := fun d hd => ih d (h.2 d hd)
      have hz : ds.length < 4611686018427387904 := by omega
      simp [F_law_same_b, hz]
      rw [comp_map (en := fun k : Nat => D.int k) (f := fun _ => D.bl true)]
      · simp
        have hz2 : ds.length ≤ 16777216 := by omega
        have e : List.map (fun _ => D.bl true) (List.range ds.length) = (List.replicate ds.length true).map D.bl := by
          rw [List.map_replicate]
          exact List.eq_replicate_iff.mpr ⟨by simp, by simp⟩
        rw [e]
        simp [hz2, -List.map_replicate]
      · intro k hk
        have hk : k < ds.length := by simpa using hk
        have ea : atI ds (k : Int) = some ds[k] := atI_nat (List.getElem?_eq_getElem hk)
        simp [ea, ih _ (List.getElem_mem hk)]
    | _ => exact h.elim
end VL
set_option Elab.async false
set_option linter.all false
set_option maxRecDepth 100000
set_option maxHeartbeats 4000000
namespace VL
open PySem PySem.Spec PyProof.Rows L2
noncomputable def F_is_word : FN := fnM 1 2 [] (mSeq (mIfS (mOrT (mTst (mOp fLt (mCB fLen (mCons (mName 0) mNil)) (mC (.int 1)))) (mOrT (mTst (mOp fGt (mCB fLen (mCons (mName 0) mNil)) (mC (.int 8)))) (mTst (mOp (fIn false) (mName 0) (mC (.tup [(.str "sum"), (.str "where"), (.str "in"), (.str "and")])))))) (mRet [] (mC (.bl false))) mNext)
    (mRet [] (mAG true [] (mIt (mName 0)) (gmName 1) (mOp (fIn false) (mName 1) (mC (.str "abcdefghijklmnopqrstuvwxyz"))) [1])))
noncomputable def F_law_is_word : FN := fnM 1 2 [] (mSeq (mIfS (mOrT (mTst (mOp fLt (mCB fLen (mCons (mName 0) mNil)) (mC (.int 1)))) (mOrT (mTst (mOp fGt (mCB fLen (mCons (mName 0) mNil)) (mC (.int 8)))) (mTst (mOp (fIn false) (mName 0) (mTup (mCons (mC (.str "sum")) (mCons (mC (.str "where")) (mCons (mC (.str "in")) (mCons (mC (.str "and")) mNil))))))))) (mRet [] (mC (.bl false))) mNext)
    (mRet [] (mCB fAll (mCons (mLc [] (mIt (mName 0)) (gmName 1) mYes (mOp (fIn false) (mName 1) (mC (.str "abcdefghijklmnopqrstuvwxyz"))) [1]) mNil))))
variable [CM]
def lettersL : List Nat := [97, 98, 99, 100, 101, 102, 103, 104, 105, 106, 107, 108, 109, 110, 111, 112, 113, 114, 115, 116, 117, 118, 119, 120, 121, 122]
theorem letters_tx : Str.ofString "abcdefghijklmnopqrstuvwxyz" = tx lettersL := by decide +kernel
def wSum : List Nat := [115, 117, 109]
def wWhere : List Nat := [119, 104, 101, 114, 101]
def wIn : List Nat := [105, 110]
def wAnd : List Nat := [97, 110, 100]
theorem sum_tx : Str.ofString "sum" = tx wSum := by decide +kernel
theorem where_tx : Str.ofString "where" = tx wWhere := by decide +kernel
theorem in_tx : Str.ofString "in" = tx wIn := by decide +kernel
theorem and_tx : Str.ofString "and" = tx wAnd := by decide +kernel
theorem hasS_tx (a : List Nat) (n : Nat) : hasS (tx a) (tx [n]) = decide (n ∈ a) := by
  have := hasS_one (tx a) n
  rwa [tx_list] at this
def isWord (l : List Nat) : Bool := decide (1 ≤ l.length) && decide (l.length ≤ 8) && !(decide (l = wSum) || decide (l = wWhere) || decide (l = wIn) || decide (l = wAnd)) && l.all fun n => decide (n ∈ lettersL)
theorem is_word_eq (l : List Nat) (h : l.length ≤ 16777216) : F_is_word [.val (dT l)] = .ok (.val (.bl (isWord l))) [.val (dT l)] := by
  unfold isWord
  by_cases h1 : l.length < 1
  · have h1' : ¬ 1 ≤ l.length := by omega
    simp [F_is_word, h, h1, h1']
  have h1' : 1 ≤ l.length := by omega
  by_cases h2 : 8 < l.length
  · have h2' : ¬ l.length ≤ 8 := by omega
    simp [F_is_word, h, h1, h2, h2']
  have h2' : l.length ≤ 8 := by omega
  have e : inSeq (dT l) [D.str "sum", D.str "where", D.str "in", D.str "and"] = some (decide (l = wSum) || decide (l = wWhere) || decide (l = wIn) || decide (l = wAnd)) := by
    rw [sum_tx, where_tx, in_tx, and_tx]
    simp [tx_beq, eq_comm, Bool.or_assoc]
  cases h3 : (decide (l = wSum) || decide (l = wWhere) || decide (l = wIn) || decide (l = wAnd)) with
  | true => rw [h3] at e; simp [F_is_word, h, h1, h2, e]
  | false =>
    rw [h3] at e
    simp [F_is_word, h, h1, h2, h1', h2', e]
    rw [all_of (en := fun n => dT [n]) (p := fun n => decide (n ∈ lettersL))]
    · simp
    · intro n _
      simp [letters_tx, hasS_tx]
theorem law_is_word_eq (l : List Nat) (h : l.length ≤ 16777216) : F_law_is_word [.val (dT l)] = .ok (.val (.bl (isWord l))) [.val (dT l)] := by
  unfold isWord
  by_cases h1 : l.length < 1
  · have h1' : ¬ 1 ≤ l.length := by omega
    simp [F_law_is_word, h, h1, h1']
  have h1' : 1 ≤ l.length := by omega
  by_cases h2 : 8 < l.length
  · have h2' : ¬ l.length ≤ 8 := by omega
    simp [F_law_is_word, h, h1, h2, h2']
  have h2' : l.length ≤ 8 := by omega
  have e : inSeq (dT l) [D.str "sum", D.str "where", D.str "in", D.str "and"] = some (decide (l = wSum) || decide (l = wWhere) || decide (l = wIn) || decide (l = wAnd)) := by
    rw [sum_tx, where_tx, in_tx, and_tx]
    simp [tx_beq, eq_comm, Bool.or_assoc]
  cases h3 : (decide (l = wSum) || decide (l = wWhere) || decide (l = wIn) || decide (l = wAnd)) with
  | true => rw [h3] at e; simp [F_law_is_word, h, h1, h2, e]
  | false =>
    rw [h3] at e
    simp [F_law_is_word, h, h1, h2, h1', h2', e]
    rw [comp_map (en := fun n => dT [n]) (f := fun n => D.bl (decide (n ∈ lettersL)))]
    · have h4 : l.length ≤ 16777216 := by omega
      simp [h4]
    · intro n _
      simp [letters_tx, hasS_tx]
end VL
set_option Elab.async false
set_option linter.all false
set_option maxRecDepth 100000
set_option maxHeartbeats 4000000
namespace VL
open PySem PySem.Spec PyProof.Rows L2
variable [CM]
section
variable {X : Cx} {CX : CXT} {k : Nat} {f C : Addr} {fd : FuncData} {ps : List Str} {sp : Sp} {E : L2.St → XK} {x m : Str} {p pos apos : Pos} {e o : Expr} {es : List Expr} {ta : TE} {t : TA}
def tMakeSD (C : Addr) (sp : Sp) (E : L2.St → XK) (t : TA) : TE := fun σ H Q => t σ H fun vs H1 => ∀ x dx, H1 x = none → H1 dx = none → dx ≠ x →
  sp (.ref x :: vs) (upd (upd H1 dx (.own x)) x (.ins C dx [])) (fun v H2 => v = .non ∧ Q (.ref x) H2) (E σ)
omit [CM] in
theorem run_makeS {pins : List (Addr × Obj)} {σ : L2.St} {H : Hp} {s : Shared} {Q : VK} {us : List Value} {vs : List V} (M : Mk X.K C f) (F : FnOk X.prog X.w X.K X.mg X.base CX k f fd ps sp) (hr : Room (k + 1) X.A) (hb : Binds X.K fd ps [])
    (hx : PassesAt CX X σ (E σ)) (I : Inv X pins σ H s) (r : Vals vs us)
    (h : ∀ x dx, H x = none → H dx = none → dx ≠ x → sp (.ref x :: vs) (upd (upd H dx (.own x)) x (.ins C dx [])) (fun v H2 => v = .non ∧ Q (.ref x) H2) (E σ)) :
    wpAny (model X.prog X.w) X.A (call (.ref C) us) (EP X pins σ Q) X.xe s := by
  have hq := h (s.heap.objs.size + 1) s.heap.objs.size (I.hok.fresh (Nat.le_succ _)) (I.hok.fresh (Nat.le_refl _)) (Nat.ne_of_lt (Nat.lt_succ_self _))
  have I2 := Inv.made (C := C) I
  have r2 : Vals (V.ref (s.heap.objs.size + 1) :: vs) (Value.ref (s.heap.objs.size + 1) :: us) := .cons rfl r
  have hl : (Value.ref (s.heap.objs.size + 1) :: us).length = ps.length := by
    rw [← r2.length]; exact F.len _ _ _ _ hq
  have b := hb _ (Value.ref (s.heap.objs.size + 1) :: us) I2.kIn (by rw [List.append_nil]; exact hl)
  rw [List.append_nil] at b
  refine wpAny_call (make_map (f := f) I.kIn M.makes M.init (beq_iff_eq.mp M.fn) (codeAny_mono (F.run _ X.stack _ _ ⟨Value.ref (s.heap.objs.size + 1) :: us, []⟩ (Value.ref (s.heap.objs.size + 1) :: us) _ _ (E σ) (hr.make C us [])
    (I2.env0.make C us []) b r2 hq) fun r s' hq' => ?_))
  cases r with
  | error e => exact hx pins _ _ e s' I2 hq'
  | ok fl =>
    cases fl with
    | ret u =>
      obtain ⟨v, H', I3, rv, ev, q3⟩ := I2.after hq'
      subst ev
      exact ⟨rv, ⟨V.ref (s.heap.objs.size + 1), H', I3, rfl, q3⟩⟩
    | next => exact False.elim hq'
    | brk => exact False.elim hq'
    | cont => exact False.elim hq'
omit [CM] in
theorem pe_makeSD (M : Mk X.K C f) (F : FnOk X.prog X.w X.K X.mg X.base CX k f fd ps sp) (hr : Room (k + 1) X.A) (hg : Gl X x) (hm : X.mg x = some (.ref C)) (hb : Binds X.K fd ps []) (hx : ∀ σ, PassesAt CX X σ (E σ))
    (ha : PA X (e :: es) t) (hdb : (x == ("__debug__" : Str)) = false := by decide) (he : starEach (e :: es) X.env = (false, eval e X.env) :: starEach es X.env := by rfl) (hpl : (backTo pos (starEach es X.env)).any (·.1) = false := by rfl) :
    PE X (.Call (.Name x p) (e :: es) [] pos) (tMakeSD C sp E t) := by
  refine ⟨fun pins s σ H Q I h => ?_⟩
  refine wpAny_Call_Name_kw (ld_glob I hg hm ?_ hdb)
  refine PySem.W.callWith_K (h₀ := X.base) I.ok.mod.kin M.kp (thn (ha.run pos pins s σ H _ I h) fun us s1 ⟨vs, H1, I1, r, q⟩ => ⟨I1.kIn, ?_⟩) he hpl
  exact run_makeS M F hr hb (hx σ) I1 r q
end
section
variable {K : PySem.W.Frag} {c : VC} {Wx : WX} {X : Cx}
structure MCallee (P : Program) (w : World) (K : PySem.W.Frag) (mg : Str → Option Value) (base : Heap) (T : List Addr) (C m : Str) (k : Nat) (ps : List Str) (sp : VSp) (f : Addr) (fd : FuncData) : Prop where
  ok : FnOk P w K mg base (L2N.CX P w) k f fd ps (spOf K T sp)
  cl : Cls K (CM.at_ C)
  me : Meth K (CM.at_ C) m f
  b : Binds K fd ps []
theorem MCallee.mono {P : Program} {w : World} {K : PySem.W.Frag} {mg : Str → Option Value} {base : Heap} {T : List Addr} {C m : Str} {j k : Nat} {ps : List Str} {sp : VSp} {f : Addr} {fd : FuncData} (M : MCallee P w K mg base T C m j ps sp f fd) (h : j ≤ k) : MCallee P w K mg base T C m k ps sp f fd := ⟨M.ok.mono h, M.cl, M.me, M.b⟩
def mkO (k : OC → List M → Prop) : List M → Prop
  | .own oc :: os => k oc os
  | _ => False
def vMake (sp : VSp) (C : Str) (v : VTA) : VT := fun env Q QX => v env (fun ws env1 => argMs ws env1 fun ms => (cels ws env1).Nodup ∧ sp (.own (.ins C []) :: ms) (fun w outs => w = .val .non ∧ mkO (fun oc os => Q (.tmp oc) (wb env1 ws os)) outs) fun C fs outs => QX C fs (wb env1 ws outs.tail)) QX
structure CCallee (P : Program) (w : World) (K : PySem.W.Frag) (mg : Str → Option Value) (base : Heap) (T : List Addr) (C : Str) (k : Nat) (ps : List Str) (sp : VSp) (f : Addr) (fd : FuncData) : Prop where
  ok : FnOk P w K mg base (L2N.CX P w) k f fd ps (spOf K T sp)
  g : mg C = some (.ref (CM.at_ C))
  mak : Mk K (CM.at_ C) f
  b : Binds K fd ps []
theorem CCallee.mono {P : Program} {w : World} {K : PySem.W.Frag} {mg : Str → Option Value} {base : Heap} {T : List Addr} {C : Str} {j k : Nat} {ps : List Str} {sp : VSp} {f : Addr} {fd : FuncData} (M : CCallee P w K mg base T C j ps sp f fd) (h : j ≤ k) : CCallee P w K mg base T C k ps sp f fd := ⟨M.ok.mono h, M.g, M.mak, M.b⟩
theorem ve_make {C : Str} {k : Nat} {ps : List Str} {sp : VSp} {fa : Addr} {fd : FuncData} {p pos : Pos} {e : Expr} {es : List Expr} {t : TA} {v : VTA} (M : CCallee X.prog X.w X.K X.mg X.base c.T C k ps sp fa fd) (hr : Room (k + 1) X.A) (hx : L2N.Takes X Wx)
    (ha : VA X c Wx (e :: es) t v) (hg : Gl X C := by rfl) (hdb : (C == ("__debug__" : Str)) = false := by decide) (he : starEach (e :: es) X.env = (false, eval e X.env) :: starEach es X.env := by rfl) (hpl : (backTo pos (starEach es X.env)).any (·.1) = false := by rfl) :
    VE X c Wx (.Call (.Name C p) (e :: es) [] pos) (tMakeSD (CM.at_ C) (spOf X.K c.T sp) (WE Wx) t) (vMake sp C v) := by
  refine ⟨pe_makeSD M.mak M.ok hr hg M.g M.b (fun σ => L2N.passAt hx σ) ha.pa hdb he hpl, fun f Hb env σ H Q QX Q' R q px k => ?_⟩
  refine ha.sim f Hb env σ H _ QX _ R q px fun ws env1 vs H1 Hb1 s1 R1 r1 q1 => ?_
  intro x dx nx nd ne
  obtain ⟨ms, ao, hnd, q1⟩ := R1.argMs r1 q1
  have sH : Same H1 (upd (upd H1 dx (.own x)) x (.ins (CM.at_ C) dx [])) := fun b o e => by
    rw [upd_ne (ne_of_none e nx), upd_ne (ne_of_none e nd)]; exact e
  have nxO : x ∉ owns ms vs := fun z => by
    obtain ⟨o, e⟩ := owns_there ao.rel z
    rw [nx] at e; cases e
  have toP : ∀ {outs : List VL.M} {Hb' H' : Hp}, Post X.K c.T Hb1 (.own (.ins C []) :: ms) (V.ref x :: vs) (upd (upd H1 dx (.own x)) x (.ins (CM.at_ C) dx [])) outs Hb' H' → Post X.K c.T Hb1 ms vs H1 outs.tail Hb' H' ∧ ∃ oc os, outs = .own oc :: os ∧ Hb' x = none ∧ Cont X.K Hb' H' x oc := fun {outs Hb' H'} p => by
    have sh := p.shape
    cases outs with
    | nil => exact False.elim sh
    | cons m os =>
      cases m with
      | val d => exact False.elim sh
      | own oc' =>
        have pa := p.args
        cases pa with
        | cons pa1 pa2 =>
          obtain ⟨a, ea, h1, h2⟩ := pa1
          cases ea
          refine ⟨⟨p.b, p.s, fun b u e h1 h2 => ?_, fun b u e => p.n b u (sH _ _ e), pa2, sh, p.tab⟩, oc', os, rfl, h1, h2⟩
          have nb : b ≠ x := ne_of_none e nx
          refine p.keep b u (sH _ _ e) (fun z => ?_) h2
          have z : b ∈ x :: owns ms vs := z
          rcases List.mem_cons.mp z with z | z
          · exact nb z
          · exact h1 z
  refine ⟨Hb1, .own (.ins C []) :: ms, _, _, ⟨fun b o e => sH _ _ (R1.sub _ _ e), .cons ⟨x, rfl, R1.sub.free nx, dx, [], upd_same, .nil⟩ (MRs.mn ao.rel sH), List.nodup_cons.mpr ⟨nxO, ao.nd hnd⟩, fun P hP => ?_⟩, q1, fun w outs qw v H' Hb' p ro => ?_, fun C fs outs qx d H' Hb' p xr => ?_⟩
  · obtain ⟨⟨pp, e, z⟩, t2, _⟩ := R1.tab P hP
    exact ⟨⟨pp, sH _ _ e, z⟩, t2⟩
  · obtain ⟨p', oc, os, rfl, hb, hc⟩ := toP p
    obtain ⟨rfl, qw⟩ := qw
    cases ro
    have R5 := R1.post ao p'
    exact ⟨rfl, k (.tmp oc) _ _ H' Hb' (s1.trans p'.b) R5 (ro_rw R1 R5 (wb_own ao p'.shape) ⟨x, rfl, hb, nx, hc⟩) qw⟩
  · obtain ⟨p', oc, os, rfl, hb, hc⟩ := toP p
    exact px C fs _ d H' Hb' (s1.trans p'.b) (R1.post ao p') xr qx
end
end VL
set_option Elab.async false
set_option linter.all false
set_option maxRecDepth 100000
set_option maxHeartbeats 4000000
namespace VL
noncomputable section
open PySem PySem.Spec PyProof.Rows L2
theorem ofS_inj {a b : String} (h : Str.ofString a = Str.ofString b) : a = b := by
  rw [Str.ofString_eq_toList, Str.ofString_eq_toList] at h
  have h : (a.toList.map Char.toNat).toArray = (b.toList.map Char.toNat).toArray := congrArg Str.cps h
  have h : a.toList.map Char.toNat = b.toList.map Char.toNat := congrArg Array.toList h
  have inj : ∀ {l m : List Char}, l.map Char.toNat = m.map Char.toNat → l = m := by
    intro l
    induction l with
    | nil => intro m h; cases m with | nil => rfl | cons _ _ => cases h
    | cons x l ih =>
      intro m h
      cases m with
      | nil => cases h
      | cons y m =>
        simp only [List.map_cons, List.cons.injEq] at h
        have : x = y := Char.ext (UInt32.toNat_inj.mp h.1)
        rw [this, ih h.2]
  exact String.toList_inj.mp (inj h)
@[simp] theorem ofS_eq (a b : String) : (Str.ofString a = Str.ofString b) = (a = b) := propext ⟨ofS_inj, fun h => by rw [h]⟩
variable [CM]
def lookF (f : Str) : List (Str × D) → Option D
  | [] => none
  | (g, d) :: r => cif (f = g) (some d) (lookF f r)
@[simp] theorem lookF_nil (f : Str) : lookF f [] = none := rfl
@[simp] theorem lookF_hit (f : Str) (d r) : lookF f ((f, d) :: r) = some d := cif_pos rfl
@[simp] theorem lookF_miss {f g : Str} {d r} (h : f ≠ g) : lookF f ((g, d) :: r) = lookF f r := cif_neg h
theorem lookF_eq (f : Str) : ∀ fs : List (Str × D), lookF f fs = fs.lookup f
  | [] => rfl
  | (g, d) :: r => by
    by_cases h : f = g
    · subst h; simp
    · rw [lookF_miss h, lookF_eq f r, List.lookup_cons]
      have : (f == g) = false := beq_eq_false_iff_ne.mpr h
      rw [this]
@[simp] theorem putD_nil (f : Str) (d : D) : putD f d [] = [(f, d)] := rfl
@[simp] theorem putD_hit (f : Str) (d x : D) (r) : putD f d ((f, x) :: r) = (f, d) :: r := if_pos rfl
@[simp] theorem putD_miss {f g : Str} {d x : D} {r} (h : g ≠ f) : putD f d ((g, x) :: r) = (g, x) :: putD f d r := if_neg h
section
variable {K : PySem.W.Frag} {c : VC} {Wx : WX} {X : Cx}
def fldO (C f : Str) : D → Option W
  | .obj C' fs => cif (C' = C) ((lookF f fs).map .val) none
  | _ => none
@[simp] theorem fldO_c1 (C f : Str) (fs) : fldO C f (.obj C fs) = (lookF f fs).map .val := cif_pos rfl
def fld2 (C f : Str) (e : Env) : Option D → R Env W
  | some d => opR e (fldO C f d)
  | none => .no
@[simp] theorem fld2_c1 (C f : Str) (e : Env) (d) : fld2 C f e (some d) = opR e (fldO C f d) := rfl
def fld1 (C f : Str) : R Env W → R Env W
  | .ok w e => fld2 C f e (view w e)
  | .ex C fs s => .ex C fs s
  | .no => .no
@[simp] theorem fld1_c1 (C f : Str) (w e) : fld1 C f (.ok w e) = fld2 C f e (view w e) := rfl
@[simp] theorem fld1_c2 (C f : Str) (C' fs s) : fld1 C f (.ex C' fs s) = .ex C' fs s := rfl
@[simp] theorem fld1_c3 (C f : Str) : fld1 C f .no = .no := rfl
@[simp] def mFld (C f : Str) (m : ME) (e : Env) : R Env W := fld1 C f (m e)
theorem fe_fld {e : Expr} {f : Str} {te : TE} {m : ME} {pos : Pos} {C : Str} (cC : Cls X.K (CM.at_ C)) (nA : NoAttr X.K (CM.at_ C) f) (he : FE X c Wx e te m) (hb : attributeBase e f X.env (eval e X.env) = eval e X.env := by rfl) : FE X c Wx (.Attribute e f pos) (tFld X.K te f) (mFld C f m) := (ve_fld cC nA he hb).weak fun env Q QX h => by
  have h : (fld1 C f (m env)).po Q QX := h
  show (m env).po _ QX
  cases hA : m env with
  | ex C fs s => rw [hA] at h; exact h
  | no => rw [hA] at h; exact h
  | ok w e1 =>
    rw [hA] at h
    have h : (fld2 C f e1 (view w e1)).po Q QX := h
    show rd w e1 _
    unfold rd
    cases hB : view w e1 with
    | none => rw [hB] at h; exact h
    | some d =>
      rw [hB] at h
      have h : (opR e1 (fldO C f d)).po Q QX := h
      show fldD C f d _
      cases d with
      | obj C' fs =>
        have h : (opR e1 (cif (C' = C) ((lookF f fs).map .val) none)).po Q QX := h
        by_cases hc : C' = C
        · rw [cif_pos hc] at h
          refine ⟨hc, ?_⟩
          rw [lookF_eq] at h
          cases hL : fs.lookup f with
          | none => rw [hL] at h; exact h.elim
          | some d' => rw [hL] at h; exact ⟨d', rfl, h⟩
        · rw [cif_neg hc] at h; exact h.elim
      | _ => exact h.elim
def stf3 (C f : Str) (j : Nat) (d : D) (e : Env) : Option (Option M) → SR
  | some (some (.own (.ins C' fs))) => asg2 (cif (C' = C ∧ fs.length < 1000) (some (e.set j (some (.own (.ins C' (putD f d fs)))))) none)
  | _ => .no
@[simp] theorem stf3_c1 (C f : Str) (j : Nat) (d : D) (e : Env) (fs) (h : fs.length < 1000) : stf3 C f j d e (some (some (.own (.ins C fs)))) = .nx (e.set j (some (.own (.ins C (putD f d fs))))) := by
  show asg2 (cif _ _ _) = _
  rw [cif_pos ⟨rfl, h⟩]; rfl
def stf2 (C f : Str) (d : D) : R Env W → SR
  | .ok (.cel j) e => stf3 C f j d e e[j]?
  | .ex C fs s => .ex C fs s
  | _ => .no
@[simp] theorem stf2_c1 (C f : Str) (d : D) (j e) : stf2 C f d (.ok (.cel j) e) = stf3 C f j d e e[j]? := rfl
def stf1 (C f : Str) (o : ME) : R Env D → SR
  | .ok d e => stf2 C f d (o e)
  | .ex C fs s => .ex C fs s
  | .no => .no
@[simp] theorem stf1_c1 (C f : Str) (o : ME) (d e) : stf1 C f o (.ok d e) = stf2 C f d (o e) := rfl
@[simp] theorem stf1_c2 (C f : Str) (o : ME) (C' fs s) : stf1 C f o (.ex C' fs s) = .ex C' fs s := rfl
@[simp] theorem stf1_c3 (C f : Str) (o : ME) : stf1 C f o .no = .no := rfl
@[simp] def mStF (C f : Str) (o m : ME) (e : Env) : SR := stf1 C f o (bd fzM (m e))
theorem fst_fld {o e : Expr} {f : Str} {to te : TE} {mo m : ME} {pos pos' : Pos} {C : Str} (cC : Cls X.K (CM.at_ C)) (nA : NoAttr X.K (CM.at_ C) f) (ho : FE X c Wx o to mo) (he : FE X c Wx e te m) (hs : swapsWith e (some (.Attribute o f pos')) pos.line X.env = pure false := by rfl) :
    FSt X c Wx (.Assign [.Attribute o f pos'] e pos) (sFld X.K to te f) (mStF C f mo m) := (vst_fld cC nA ho he hs).weak fun DV env h => by
  have h : (stf1 C f mo (bd fzM (m env))).po DV := h
  show (m env).po _ DV.ex
  cases hA : m env with
  | ex C fs s => rw [hA] at h; exact h
  | no => rw [hA] at h; exact h
  | ok w e1 =>
    rw [hA] at h
    have h : (stf1 C f mo (fzM w e1)).po DV := h
    show fz w e1 fun d env2 => vR mo env2 (fun w2 env3 => stF C f d w2 env3 DV.nx) DV.ex
    refine po_fz (QX := DV.ex) ?_
    cases hB : fzM w e1 with
    | ex C fs s => rw [hB] at h; exact h
    | no => rw [hB] at h; exact h
    | ok d e2 =>
      rw [hB] at h
      have h : (stf2 C f d (mo e2)).po DV := h
      show (mo e2).po _ DV.ex
      cases hC : mo e2 with
      | ex C fs s => rw [hC] at h; exact h
      | no => rw [hC] at h; exact h
      | ok w2 e3 =>
        rw [hC] at h
        cases w2 with
        | val d => exact h.elim
        | tmp d => exact h.elim
        | cel j =>
          have h : (stf3 C f j d e3 e3[j]?).po DV := h
          show match e3[j]? with | some (some (.own (.ins C' fs))) => _ | _ => False
          generalize hE : e3[j]? = x at h ⊢
          rcases x with _ | _ | d' | ⟨⟩ | ⟨C', fs⟩
          · exact h.elim
          · exact h.elim
          · exact h.elim
          · exact h.elim
          · have h : (asg2 (cif (C' = C ∧ fs.length < 1000) (some (e3.set j (some (.own (.ins C' (putD f d fs)))))) none)).po DV := h
            by_cases hc : C' = C ∧ fs.length < 1000
            · rw [cif_pos hc] at h; exact ⟨hc.1, hc.2, h⟩
            · rw [cif_neg hc] at h; exact h.elim
def cifR (p : Prop) (r : R Env W) : R Env W := cif p r .no
@[simp] theorem cifR_pos {p : Prop} {r : R Env W} (h : p) : cifR p r = r := cif_pos h
def meth2 (F : FN) (C m : Str) (t : MA) (w : W) (e : Env) : Option D → R Env W
  | some (.obj C' fs) => cifR (C' = C ∧ lookF m fs = none) (call1 F (mp (fun ws => fzv w :: ws) (t e)))
  | _ => .no
@[simp] theorem meth2_c1 (F : FN) (C m : Str) (t : MA) (w : W) (e : Env) (fs) (h : lookF m fs = none) : meth2 F C m t w e (some (.obj C fs)) = call1 F (mp (fun ws => fzv w :: ws) (t e)) := cif_pos ⟨rfl, h⟩
def meth1 (F : FN) (C m : Str) (t : MA) : R Env W → R Env W
  | .ok w e => meth2 F C m t w e (view w e)
  | .ex C fs s => .ex C fs s
  | .no => .no
@[simp] theorem meth1_c1 (F : FN) (C m : Str) (t : MA) (w e) : meth1 F C m t (.ok w e) = meth2 F C m t w e (view w e) := rfl
@[simp] theorem meth1_c2 (F : FN) (C m : Str) (t : MA) (C' fs s) : meth1 F C m t (.ex C' fs s) = .ex C' fs s := rfl
@[simp] theorem meth1_c3 (F : FN) (C m : Str) (t : MA) : meth1 F C m t .no = .no := rfl
@[simp] def mMeth (F : FN) (C m : Str) (o : ME) (t : MA) (e : Env) : R Env W := meth1 F C m t (o e)
def make3 (e : Env) (ws : List W) : R (List M) W → R Env W
  | .ok (.val .non) (.own oc :: os) => .ok (.tmp oc) (wbF e ws os)
  | .ex C fs os => .ex C fs (wbF e ws os.tail)
  | _ => .no
@[simp] theorem make3_c1 (e : Env) (ws : List W) (oc os) : make3 e ws (.ok (.val .non) (.own oc :: os)) = .ok (.tmp oc) (wbF e ws os) := rfl
@[simp] theorem make3_c2 (e : Env) (ws : List W) (C fs os) : make3 e ws (.ex C fs os) = .ex C fs (wbF e ws os.tail) := rfl
def make2 (F : FN) (C : Str) (e : Env) (ws : List W) : Bool → Option (List M) → R Env W
  | true, some ms => make3 e ws (F (.own (.ins C []) :: ms))
  | _, _ => .no
@[simp] theorem make2_c1 (F : FN) (C : Str) (e : Env) (ws : List W) (ms) : make2 F C e ws true (some ms) = make3 e ws (F (.own (.ins C []) :: ms)) := rfl
def make1 (F : FN) (C : Str) : R Env (List W) → R Env W
  | .ok ws e => make2 F C e ws (ndB (cels ws e)) (argsF ws e)
  | .ex C fs s => .ex C fs s
  | .no => .no
@[simp] theorem make1_c1 (F : FN) (C : Str) (ws e) : make1 F C (.ok ws e) = make2 F C e ws (ndB (cels ws e)) (argsF ws e) := rfl
@[simp] theorem make1_c2 (F : FN) (C : Str) (C' fs s) : make1 F C (.ex C' fs s) = .ex C' fs s := rfl
@[simp] theorem make1_c3 (F : FN) (C : Str) : make1 F C .no = .no := rfl
@[simp] def mMake (F : FN) (C : Str) (t : MA) (e : Env) : R Env W := make1 F C (t e)
theorem po_make {F : FN} {C : Str} {t : MA} {env : Env} {Q : VQ} {QX : VX} (h : vR (mMake F C t) env Q QX) : vMake (spF F) C (vR t) env Q QX := by
  have h : (make1 F C (t env)).po Q QX := h
  show (t env).po _ QX
  cases hA : t env with
  | ex C fs s => rw [hA] at h; exact h
  | no => rw [hA] at h; exact h
  | ok ws e =>
    rw [hA] at h
    have h : (make2 F C e ws (ndB (cels ws e)) (argsF ws e)).po Q QX := h
    cases h1 : ndB (cels ws e) with
    | false => rw [h1] at h; cases h2 : argsF ws e <;> rw [h2] at h <;> exact h.elim
    | true =>
      cases h2 : argsF ws e with
      | none => rw [h1, h2] at h; exact h.elim
      | some ms =>
        rw [h1, h2] at h
        have h : (make3 e ws (F (.own (.ins C []) :: ms))).po Q QX := h
        refine argMs_of h2 ⟨ndB_of h1, ?_⟩
        unfold spF
        cases hF : F (.own (.ins C []) :: ms) with
        | no => rw [hF] at h; exact h
        | ex C fs os => rw [hF] at h; show QX C fs (wb e ws os.tail); rw [← wbF_eq]; exact h
        | ok w os =>
          rw [hF] at h
          rcases w with d | i | oc
          · cases d with
            | non =>
              rcases os with _ | ⟨m, os⟩
              · exact h.elim
              · cases m with
                | val d => exact h.elim
                | own oc =>
                  refine ⟨rfl, ?_⟩
                  show Q (.tmp oc) (wb e ws os)
                  rw [← wbF_eq]; exact h
            | _ => exact h.elim
          · exact h.elim
          · exact h.elim
theorem fe_make {C : Str} {k : Nat} {ps : List Str} {F : FN} {fa : Addr} {fd : FuncData} {p pos : Pos} {e : Expr} {es : List Expr} {t : TA} {v : MA} (M : CCallee X.prog X.w X.K X.mg X.base c.T C k ps (spF F) fa fd) (hr : Room (k + 1) X.A) (hx : L2N.Takes X Wx)
    (ha : FA X c Wx (e :: es) t v) (hg : Gl X C := by rfl) (hdb : (C == ("__debug__" : Str)) = false := by decide) (he : starEach (e :: es) X.env = (false, eval e X.env) :: starEach es X.env := by rfl) (hpl : (backTo pos (starEach es X.env)).any (·.1) = false := by rfl) :
    FE X c Wx (.Call (.Name C p) (e :: es) [] pos) (tMakeSD (CM.at_ C) (spOf X.K c.T (spF F)) (WE Wx) t) (mMake F C v) := (ve_make M hr hx ha hg hdb he hpl).weak fun env Q QX h => po_make h
end
section
variable {P : Program} {w : World} {K : PySem.W.Frag} {mg : Str → Option Value} {base : Heap}
structure FunM (K : PySem.W.Frag) (C m qual : Str) (st : Stmt) (ps : List Str) (f : Addr) (fd : FuncData) : Prop where
  F : Fun K m qual st f fd
  cl : Cls K (CM.at_ C)
  me : Meth K (CM.at_ C) m f
  b : Binds K fd ps []
structure FunI (K : PySem.W.Frag) (mg : Str → Option Value) (C qual : Str) (st : Stmt) (ps : List Str) (f : Addr) (fd : FuncData) : Prop where
  F : Fun K "__init__" qual st f fd
  cl : Cls K (CM.at_ C)
  g : mg C = some (.ref (CM.at_ C))
  mak : Mk K (CM.at_ C) f
  b : Binds K fd ps []
theorem fn_okF {x qual : Str} {st : Stmt} {f : Addr} {fd : FuncData} {N ps : List Str} {k : Nat} {T : List Addr} {fx : List Nat} {F : FN} (np n : Nat) (m : MS) (hF : F = fnM np n fx m) (FB : Fun K x qual st f fd) (S : FnScope N ps (defScope st)) (hnp : ps.length = np) (hn : N.length = n)
    (hfx : ∀ i ∈ fx, i < ps.length)
    (hbody : ∀ (cdv : Value) (A : Around) (outer : List PySem.Env) (s : Shared) (H : Hp) (E : XK), Room k (A.deeper (envOfC qual (defScope st) s.heap.objs.size f cdv)) →
      ∃ ts, FSs (cxOf (L2N.CX P w) P w K mg base N qual (defScope st) f cdv A outer s H E) ⟨T, fx, []⟩ (fun cls d _ H => E cls d H) (defBody st) ts m) : FnOk P w K mg base (L2N.CX P w) (k + 1) f fd ps (spOf K T (spF F)) := by
  subst hnp hn
  exact vl_ok (c := ⟨T, fx, []⟩) FB S hfx (fun ms A B h => (spF_ok hF h).1) hbody (fun ms A B h => (spF_ok hF h).2)
theorem fl_init {C qual : Str} {st : Stmt} {f : Addr} {fd : FuncData} {N ps : List Str} {k : Nat} {T : List Addr} {fx : List Nat} {F : FN} (np n : Nat) (m : MS) (hF : F = fnM np n fx m) (FB : FunI K mg C qual st ps f fd) (S : FnScope N ps (defScope st)) (hnp : ps.length = np) (hn : N.length = n)
    (hfx : ∀ i ∈ fx, i < ps.length)
    (hbody : ∀ (cdv : Value) (A : Around) (outer : List PySem.Env) (s : Shared) (H : Hp) (E : XK), Room k (A.deeper (envOfC qual (defScope st) s.heap.objs.size f cdv)) →
      ∃ ts, FSs (cxOf (L2N.CX P w) P w K mg base N qual (defScope st) f cdv A outer s H E) ⟨T, fx, []⟩ (fun cls d _ H => E cls d H) (defBody st) ts m) : CCallee P w K mg base T C (k + 1) ps (spF F) f fd :=
  ⟨fn_okF np n m hF FB.F S hnp hn hfx hbody, FB.g, FB.mak, FB.b⟩
end
end
end VL
set_option Elab.async false
set_option linter.all false
set_option maxRecDepth 100000
set_option maxHeartbeats 4000000
namespace VL
noncomputable section
open PySem PySem.Spec PyProof.Rows L2
def leL (a b : List Nat) : Bool := !Spec.ltCps b a
theorem leL_total : ∀ a b : List Nat, (leL a b || leL b a) = true
  | [], [] => rfl
  | [], _ :: _ => rfl
  | _ :: _, [] => rfl
  | a :: r, b :: t => by
    have ih := leL_total r t
    unfold leL at ih ⊢
    simp only [Spec.ltCps, Bool.or_eq_true, Bool.not_eq_true', Bool.or_eq_false_iff, Bool.and_eq_false_iff, decide_eq_false_iff_not, beq_eq_false_iff_ne] at ih ⊢
    rcases Nat.lt_trichotomy a b with h | rfl | h
    · exact .inl ⟨by omega, .inl (by omega)⟩
    · rcases ih with ih | ih
      · exact .inl ⟨by omega, .inr ih⟩
      · exact .inr ⟨by omega, .inr ih⟩
    · exact .inr ⟨by omega, .inl (by omega)⟩
theorem leL_trans : ∀ a b c : List Nat, leL a b = true → leL b c = true → leL a c = true
  | [], _, c => fun _ _ => by cases c <;> rfl
  | _ :: _, [], _ => fun h => by cases h
  | _ :: _, _ :: _, [] => fun _ h => by cases h
  | a :: r, b :: t, c :: u => fun h1 h2 => by
    have ih := leL_trans r t u
    unfold leL at ih h1 h2 ⊢
    simp only [Spec.ltCps, Bool.not_eq_true', Bool.or_eq_false_iff, Bool.and_eq_false_iff, decide_eq_false_iff_not, beq_eq_false_iff_ne] at ih h1 h2 ⊢
    obtain ⟨x1, x2⟩ := h1
    obtain ⟨y1, y2⟩ := h2
    refine ⟨by omega, ?_⟩
    by_cases e : c = a
    · right
      subst e
      have e2 : b = c := by omega
      subst e2
      exact ih (x2.resolve_left (by simp)) (y2.resolve_left (by simp))
    · exact .inl e
theorem leL_anti : ∀ a b : List Nat, leL a b = true → leL b a = true → a = b
  | [], [] => fun _ _ => rfl
  | [], _ :: _ => fun _ h => by cases h
  | _ :: _, [] => fun h => by cases h
  | a :: r, b :: t => fun h1 h2 => by
    have ih := leL_anti r t
    unfold leL at ih h1 h2
    simp only [Spec.ltCps, Bool.not_eq_true', Bool.or_eq_false_iff, Bool.and_eq_false_iff, decide_eq_false_iff_not, beq_eq_false_iff_ne] at ih h1 h2
    obtain ⟨x1, x2⟩ := h1
    obtain ⟨y1, y2⟩ := h2
    have e : a = b := by omega
    subst e
    rw [ih (x2.resolve_left (by simp)) (y2.resolve_left (by simp))]
def sortL (l : List (List Nat)) : List (List Nat) := l.mergeSort leL
theorem sortL_perm (l : List (List Nat)) : (sortL l).Perm l := List.mergeSort_perm ..
theorem sortL_pw (l : List (List Nat)) : (sortL l).Pairwise fun a b => leL a b = true := List.pairwise_mergeSort leL_trans leL_total l
theorem pw_risingS : ∀ (p : Str) (l : List Str), risingS p l = true → ((p :: l).map fun x => x.cps.toList).Pairwise fun a b => leL a b = true
  | p, [], _ => List.pairwise_singleton ..
  | p, x :: r, h => by
    have h : (!Spec.ltCps x.cps.toList p.cps.toList && risingS x r) = true := h
    simp only [Bool.and_eq_true] at h
    have ih := pw_risingS x r h.2
    rw [List.map_cons]
    refine List.pairwise_cons.mpr ⟨fun y hy => ?_, ih⟩
    rw [List.map_cons] at hy ih
    rcases List.mem_cons.mp hy with rfl | hy
    · exact h.1
    · exact leL_trans _ _ _ h.1 ((List.pairwise_cons.mp ih).1 y hy)
theorem sortedS_uniq {ys ss : List Str} (hp : ys.Perm ss) (hs : sortedS ys = true) : ys.map (fun x => x.cps.toList) = sortL (ss.map fun x => x.cps.toList) := by
  have h1 : (ys.map fun x => x.cps.toList).Pairwise fun a b => leL a b = true := by
    cases ys with
    | nil => exact .nil
    | cons x r => exact pw_risingS x r hs
  refine List.Perm.eq_of_pairwise (le := fun a b => leL a b = true) (fun a b _ _ => leL_anti a b) h1 (sortL_pw _) ?_
  exact (hp.map _).trans (sortL_perm _).symm
variable [CM]
section
variable {K : PySem.W.Frag} {c : VC} {Wx : WX} {X : Cx}
def sortS (ss : List Str) : Option W := cif (ss.length < 64) (some (.tmp (.lst ((sortL (ss.map fun x => x.cps.toList)).map dT)))) none
def sortI (ns : List Int) : Option W := cif (ns.length < 64) (some (.tmp (.lst ((ns.mergeSort fun a b => decide (a ≤ b)).map D.int)))) none
def sort2 : List D → Option (List Str) → Option (List Int) → Option W
  | _, some ss, _ => sortS ss
  | _, none, some ns => sortI ns
  | _, none, none => none
def fSorted : F1
  | [.lst ds] => sort2 ds (strsOf ds) (intsOf ds)
  | _ => none
@[simp] theorem fSorted_c1 (ds) : fSorted [.lst ds] = sort2 ds (strsOf ds) (intsOf ds) := rfl
@[simp] theorem sort2_c1 (ds ss o) : sort2 ds (some ss) o = sortS ss := rfl
@[simp] theorem sort2_c2 (ds ns) : sort2 ds none (some ns) = sortI ns := rfl
@[simp] theorem sortS_tx {l : List (List Nat)} (h : l.length < 64) : sortS (l.map tx) = some (.tmp (.lst ((sortL l).map dT))) := by
  have e : ((l.map tx).map fun x : Str => x.cps.toList) = l := by rw [List.map_map]; simp [Function.comp_def]
  unfold sortS
  rw [cif_pos (by simpa using h), e]
@[simp] theorem sortI_of {ns : List Int} (h : ns.length < 64) : sortI ns = some (.tmp (.lst ((ns.mergeSort fun a b => decide (a ≤ b)).map D.int))) := cif_pos h
theorem cbf_sorted : CbF fSorted dSorted := by
  intro ds w Q h q
  unfold fSorted at h
  split at h
  · rename_i ds
    show (∃ ss : List Str, _) ∨ _
    cases h1 : strsOf ds with
    | some ss =>
      rw [h1] at h
      have h : cif (ss.length < 64) (some (W.tmp (.lst ((sortL (ss.map fun x => x.cps.toList)).map dT)))) none = some w := h
      by_cases hl : ss.length < 64
      · rw [cif_pos hl] at h
        cases h
        refine .inl ⟨ss, strsOf_some h1, hl, fun ys hp hs => ?_⟩
        have e := sortedS_uniq hp hs
        have e2 : ys.map D.str = (sortL (ss.map fun x => x.cps.toList)).map dT := by
          rw [← e, List.map_map]
          exact List.map_congr_left fun y _ => congrArg D.str (tx_of y)
        rw [e2]; exact q
      · rw [cif_neg hl] at h; cases h
    | none =>
      rw [h1] at h
      cases h2 : intsOf ds with
      | none => rw [h2] at h; cases h
      | some ns =>
        rw [h2] at h
        have h : cif (ns.length < 64) (some (W.tmp (.lst ((ns.mergeSort fun a b => decide (a ≤ b)).map D.int)))) none = some w := h
        by_cases hl : ns.length < 64
        · rw [cif_pos hl] at h
          cases h
          refine .inr ⟨ns, intsOf_some h2, hl, fun ys hp hs => ?_⟩
          have e : ys = ns.mergeSort fun a b => decide (a ≤ b) := by
            refine List.Perm.eq_of_pairwise (le := fun a b : Int => a ≤ b) (fun a b _ _ => Int.le_antisymm) hs ?_ (hp.trans (List.mergeSort_perm ..).symm)
            refine (List.pairwise_mergeSort (le := fun a b : Int => decide (a ≤ b)) (fun a b c h1 h2 => by simp at *; omega) (fun a b => by simp; omega) ns).imp fun h => by simpa using h
          rw [e]; exact q
        · rw [cif_neg hl] at h; cases h
  · cases h
theorem fe_sorted {e : Expr} {p pos : Pos} {t : TA} {v : MA} (hm : X.mg "sorted" = none) (ha : FA X c Wx [e] t v) (hg : Gl X "sorted" := by rfl) (he : starEach [e] X.env = (false, eval e X.env) :: starEach [] X.env := by rfl) (hpl : (backTo pos (starEach [] X.env)).any (·.1) = false := by rfl) :
    FE X c Wx (.Call (.Name "sorted" p) [e] [] pos) (tCB (fun xs H Q => rSortedS X.K xs H Q ∨ rSorted X.K xs H Q) t) (mCB fSorted v) := (ve_sorted hm ha hg he hpl).weak fun _ _ _ h => po_cb cbf_sorted h
def rev2 (e : Env) : Option D → R Env W
  | some (.lst ds) => .ok (.tmp (.lst ds.reverse)) e
  | _ => .no
@[simp] theorem rev2_c1 (e : Env) (ds) : rev2 e (some (.lst ds)) = .ok (.tmp (.lst ds.reverse)) e := rfl
def rev1 : R Env W → R Env W
  | .ok w e => rev2 e (view w e)
  | .ex C fs s => .ex C fs s
  | .no => .no
@[simp] theorem rev1_c1 (w e) : rev1 (.ok w e) = rev2 e (view w e) := rfl
@[simp] theorem rev1_c2 (C fs s) : rev1 (.ex C fs s) = .ex C fs s := rfl
@[simp] theorem rev1_c3 : rev1 .no = .no := rfl
@[simp] def mRevL (m : ME) (e : Env) : R Env W := rev1 (m e)
theorem pe_or {e : Expr} {t1 t2 : TE} (h1 : PE X e t1) (h2 : PE X e t2) : PE X e (fun σ H Q => t1 σ H Q ∨ t2 σ H Q) := ⟨fun pins s σ H Q I h => h.elim (h1.run pins s σ H Q I) (h2.run pins s σ H Q I)⟩
def tyTup (K : PySem.W.Frag) (x : V) (H : Hp) : Prop := ∃ a vs, x = .ref a ∧ SqN K H a vs
theorem ty_tup : TyOk X "tuple" (tyTup X.K) := by
  intro pins σ H s x v I r ty
  obtain ⟨a, vs, rfl, h, n⟩ := ty
  cases r
  obtain ⟨its, _, ⟨o, ho, hc, _⟩, _⟩ := I.tuple h
  refine ⟨⟨o, ho, hc⟩, fun b e => ?_⟩
  cases e
  rcases n with ⟨o', u, hn, hd⟩ | ⟨o', hn, hd⟩
  · exact ⟨o', (I.hok _ _ hn).1, hd⟩
  · exact ⟨o', I.kIn _ _ hn, hd⟩
def rTix (K : PySem.W.Frag) : V → List V → Hp → VK → Prop := fun x xs H Q => ∃ p, ∃ ys : List Str, ∃ z j, x = .ref p ∧ xs = [.str z] ∧ SqT K H p (ys.map V.str) ∧ ys[j]? = some z ∧ (∀ m, m < j → ys[m]? ≠ some z) ∧ Q (.int (j : Nat)) H
def rTixX (K : PySem.W.Frag) : V → List V → Hp → VK → Prop := fun x xs H Q => rTix K x xs H Q ∨ rTixD K x xs H Q
def rLixX (K : PySem.W.Frag) : V → List V → Hp → VK → Prop := fun x xs H Q => rIndex K x xs H Q ∨ rIndexD K x xs H Q
def tIdx (K : PySem.W.Frag) (to te : TE) : TE := fun σ H Q => tMG (tyTup K) (rTixX K) to (tCons te tNil) σ H Q ∨ tBM K "list" (rLixX K) to (tCons te tNil) σ H Q
theorem pe_idx (hu : X.A.units + 65 < cLine) {o e : Expr} {to te : TE} {apos cpos : Pos} (ho : PE X o to) (he : PE X e te)
    (hbase : attributeBase o "index" X.env (eval o X.env) = eval o X.env := by rfl)
    (hfew : ((backTo cpos (starEach [e] X.env)).all (fun x => !x.1) && (backToKw cpos (keywordEach [] X.env)).all (fun x => x.1.isSome)
      && decide (([e] : List Expr).length + ([] : List Keyword).length + (if ([] : List Keyword).isEmpty then 0 else 1) < 30)) = true := by rfl)
    (hline : (apos.endLine == cpos.line) = true := by rfl) (hs : starEach [e] X.env = (false, eval e X.env) :: starEach [] X.env := by rfl) (hplain : (backTo cpos (starEach [] X.env)).any (·.1) = false := by rfl) :
    PE X (.Call (.Attribute o "index" apos) [e] [] cpos) (tIdx X.K to te) :=
  pe_or (pe_mG ty_tup PySem.F.plainAttrs_tuple PySem.F.slot_tuple_index PySem.F.type_tuple_index (MtR.or mt_tup_index (mt_tixD hu)) ho (pa_cons he pa_nil hs) hbase hfew hline hs hplain)
    (pe_bm PySem.F.plainAttrs_list PySem.F.slot_list_index PySem.F.type_list_index (MtR.or mt_index (mt_indexD hu)) ho (pa_cons he pa_nil hs) hbase hfew hline hs hplain)
def posS (z : Str) : List Str → Nat → Option Nat
  | [], _ => none
  | y :: ys, j => cif (y = z) (some j) (posS z ys (j + 1))
theorem posS_is {z : Str} : ∀ {ys : List Str} {j0 j : Nat}, posS z ys j0 = some j → ∃ i, j = j0 + i ∧ ys[i]? = some z ∧ ∀ m, m < i → ys[m]? ≠ some z
  | [], j0, j, h => by cases h
  | y :: ys, j0, j, h => by
    have h : cif (y = z) (some j0) (posS z ys (j0 + 1)) = some j := h
    by_cases e : y = z
    · rw [cif_pos e] at h; cases h
      exact ⟨0, rfl, by rw [e]; rfl, fun m hm => absurd hm (Nat.not_lt_zero _)⟩
    · rw [cif_neg e] at h
      obtain ⟨i, h1, h2, h3⟩ := posS_is h
      refine ⟨i + 1, by omega, h2, fun m hm => ?_⟩
      cases m with
      | zero => simpa using e
      | succ m => simpa using h3 m (by omega)
theorem posS_of {z : Str} : ∀ {ys : List Str} {j0 i : Nat}, ys[i]? = some z → (∀ m, m < i → ys[m]? ≠ some z) → posS z ys j0 = some (j0 + i)
  | [], j0, i, h, _ => by simp at h
  | y :: ys, j0, 0, h, _ => by
    have : y = z := by simpa using h
    exact cif_pos this
  | y :: ys, j0, i + 1, h, hn => by
    have ne : ¬ y = z := fun e => hn 0 (by omega) (by simp [e])
    show cif _ _ _ = _
    rw [cif_neg ne, posS_of (i := i) (by simpa using h) (fun m hm => by simpa using hn (m + 1) (by omega))]
    congr 1; omega
def idx4 (z : Str) : Option (List Str) → Option W
  | some ys => (posS z ys 0).map fun j => .val (.int (j : Nat))
  | none => none
@[simp] theorem idx4_c1 (z : Str) (ys) : idx4 z (some ys) = (posS z ys 0).map fun j => .val (.int (j : Nat)) := rfl
noncomputable def fIdxT : F2
  | .tup ds, .str z => idx4 z (strsOf ds)
  | .tup ds, .tup z => idxG (.tup z) ds
  | .tup ds, .int z => idxG (.int z) ds
  | _, _ => none
noncomputable def fIdxL : F2
  | .lst ds, .str z => idx4 z (strsOf ds)
  | .lst ds, .tup z => idxG (.tup z) ds
  | .lst ds, .int z => idxG (.int z) ds
  | _, _ => none
@[simp] theorem fIdxT_c1 (ds z) : fIdxT (.tup ds) (.str z) = idx4 z (strsOf ds) := rfl
@[simp] theorem fIdxL_c1 (ds z) : fIdxL (.lst ds) (.str z) = idx4 z (strsOf ds) := rfl
@[simp] theorem fIdxT_c2 (ds z) : fIdxT (.tup ds) (.tup z) = idxG (.tup z) ds := rfl
@[simp] theorem fIdxT_c3 (ds z) : fIdxT (.tup ds) (.int z) = idxG (.int z) ds := rfl
@[simp] theorem fIdxL_c2 (ds z) : fIdxL (.lst ds) (.tup z) = idxG (.tup z) ds := rfl
@[simp] theorem fIdxL_c3 (ds z) : fIdxL (.lst ds) (.int z) = idxG (.int z) ds := rfl
noncomputable def idx2 (a : ME) (w : W) (e : Env) : Option D → R Env W
  | some (.tup _) => op2 fIdxT (fzv w) (a e)
  | some (.lst _) => op2 fIdxL (fzv w) (a e)
  | _ => .no
@[simp] theorem idx2_c1 (a : ME) (w : W) (e : Env) (ds) : idx2 a w e (some (.tup ds)) = op2 fIdxT (fzv w) (a e) := rfl
@[simp] theorem idx2_c2 (a : ME) (w : W) (e : Env) (ds) : idx2 a w e (some (.lst ds)) = op2 fIdxL (fzv w) (a e) := rfl
noncomputable def idx1 (a : ME) : R Env W → R Env W
  | .ok w e => idx2 a w e (view (fzv w) e)
  | .ex C fs s => .ex C fs s
  | .no => .no
@[simp] theorem idx1_c1 (a : ME) (w e) : idx1 a (.ok w e) = idx2 a w e (view (fzv w) e) := rfl
@[simp] theorem idx1_c2 (a : ME) (C fs s) : idx1 a (.ex C fs s) = .ex C fs s := rfl
@[simp] theorem idx1_c3 (a : ME) : idx1 a .no = .no := rfl
@[simp] noncomputable def mIdx (o a : ME) (e : Env) : R Env W := idx1 a (o e)
theorem fzv_idem (w : W) : fzv (fzv w) = fzv w := by cases w <;> rfl
theorem fe_idx (hu : X.A.units + 65 < cLine) {o e : Expr} {to te : TE} {mo m : ME} {apos cpos : Pos} (ho : FE X c Wx o to mo) (he : FE X c Wx e te m)
    (hbase : attributeBase o "index" X.env (eval o X.env) = eval o X.env := by rfl)
    (hfew : ((backTo cpos (starEach [e] X.env)).all (fun x => !x.1) && (backToKw cpos (keywordEach [] X.env)).all (fun x => x.1.isSome)
      && decide (([e] : List Expr).length + ([] : List Keyword).length + (if ([] : List Keyword).isEmpty then 0 else 1) < 30)) = true := by rfl)
    (hline : (apos.endLine == cpos.line) = true := by rfl) (hs : starEach [e] X.env = (false, eval e X.env) :: starEach [] X.env := by rfl) (hplain : (backTo cpos (starEach [] X.env)).any (·.1) = false := by rfl) :
    FE X c Wx (.Call (.Attribute o "index" apos) [e] [] cpos) (tIdx X.K to te) (mIdx mo m) := by
  refine ⟨pe_idx hu ho.pe he.pe hbase hfew hline hs hplain, fun f Hb env σ H Q QX Q' R q px k => ?_⟩
  have q : (idx1 m (mo env)).po Q QX := q
  cases hA : mo env with
  | no => rw [hA] at q; exact q.elim
  | ex C fs s =>
    rw [hA] at q
    refine .inl (ho.sim f Hb env σ H (fun _ _ => False) QX _ R (by show (mo env).po _ QX; rw [hA]; exact q) px fun w1 env1 v1 H1 Hb1 s1 R1 r1 q1 => q1.elim)
  | ok w e1 =>
    rw [hA] at q
    have q : (idx2 m w e1 (view (fzv w) e1)).po Q QX := q
    have start : ∀ P : VQ, P w e1 → (vR mo) env P QX := fun P h => by show (mo env).po _ QX; rw [hA]; exact h
    cases hV : view (fzv w) e1 with
    | none => rw [hV] at q; exact q.elim
    | some d =>
      rw [hV] at q
      have run2 : ∀ {fI : F2} {v1 : V} {H1 Hb1 : Hp} {Q2 : V → Hp → Prop}, Rl X.K c f Hb1 e1 σ H1 → RS X.K Hb1 σ (fzv w) v1 → Same Hb Hb1 → (op2 fI (fzv w) (m e1)).po Q QX →
          (∀ d1 d2 w' env2 v2 H2 Hb2, Same Hb Hb2 → Rl X.K c f Hb2 env2 σ H2 → RR X.K Hb2 H2 d1 v1 → RR X.K Hb2 H2 d2 v2 → fI d1 d2 = some w' → Q w' env2 → Q2 v2 H2) → te σ H1 Q2 := fun {fI v1 H1 Hb1 Q2} R1 r1 s1 q kk => by
        refine he.sim f Hb1 e1 σ H1 (fun w2 e2 => (op3 fI e2 (view (fzv w) e2) (view w2 e2)).po Q QX) QX _ R1 ?_ (px.mn s1) fun w2 env2 v2 H2 Hb2 s2 R2 r2 q2 => ?_
        · show (m e1).po _ QX
          cases hB : m e1 with
          | ex C fs s => rw [hB] at q; exact q
          | no => rw [hB] at q; exact q
          | ok w2 e2 =>
            rw [hB] at q
            have q : (op3 fI e2 (view (fzv (fzv w)) e2) (view w2 e2)).po Q QX := q
            rw [fzv_idem] at q
            exact q
        · cases h1 : view (fzv w) env2 with
          | none => rw [h1] at q2; exact q2.elim
          | some d1 =>
            cases h2 : view w2 env2 with
            | none => rw [h1, h2] at q2; exact q2.elim
            | some d2 =>
              rw [h1, h2] at q2
              have q2 : (opR env2 (fI d1 d2)).po Q QX := q2
              cases h3 : fI d1 d2 with
              | none => rw [h3] at q2; exact q2.elim
              | some w' => rw [h3] at q2; exact kk d1 d2 w' env2 v2 H2 Hb2 (s1.trans s2) R2 (R2.rd (RS.rw (r1.mn s2)) h1) (R2.rd r2 h2) h3 q2
      cases d with
      | tup ds0 =>
        refine .inl (ho.sim f Hb env σ H (fun w' e' => w' = w ∧ e' = e1) QX _ R (start _ ⟨rfl, rfl⟩) px fun w1 env1 v1 H1 Hb1 s1 R1 r1 q1 => ?_)
        obtain ⟨rfl, rfl⟩ := q1
        obtain ⟨Hb1', s1', R1', r1'⟩ := R1.fzv r1
        have rr := R1'.rd (RS.rw r1') hV
        cases rr with
        | tup a1 a2 =>
          refine ⟨⟨_, _, rfl, a1.mn R1'.sub⟩, ?_⟩
          refine run2 R1' r1' (s1.trans s1') q fun d1 d2 w' env2 v2 H2 Hb2 s2 R2 rr1 rr2 h3 q2 => ?_
          unfold fIdxT at h3
          split at h3
          · rename_i ds z
            cases h4 : strsOf ds with
            | none => rw [h4] at h3; cases h3
            | some ys =>
              rw [h4] at h3
              have h3 : (posS z ys 0).map (fun j => W.val (.int (j : Nat))) = some w' := h3
              cases h5 : posS z ys 0 with
              | none => rw [h5] at h3; cases h3
              | some j =>
                rw [h5] at h3
                cases h3
                obtain ⟨i, e0, h6, h7⟩ := posS_is h5
                obtain rfl : j = i := by omega
                cases rr2
                cases rr1 with
                | tup b1 b2 =>
                  rw [strsOf_some h4] at b2
                  rw [RpL.strs b2] at b1
                  exact .inl ⟨_, ys, z, j, rfl, rfl, same_seqT R2.sub b1.1, h6, h7, k (.val (.int _)) _ _ _ _ s2 R2 (.int _) q2⟩
          · rename_i ds z
            obtain ⟨ps, p, j, zz, g1, g2, g3, g4, g5, g6, g7, rfl⟩ := idxG_some h3
            have dd := Rp.dp _ _ (.tuple ps) (rr1.up R2.sub) (by unfold toPy; rw [g1]; rfl)
            have d2 := Rp.dp _ _ p (rr2.up R2.sub) g2
            cases rr1 with
            | tup b1 b2 => exact .inr ⟨_, v2, p, ps, j, zz, rfl, rfl, dd, d2, by rw [shaped_lt]; exact g3, g4, g5, g6, g7, k (.val (.int _)) _ _ _ _ s2 R2 (.int _) q2⟩
          · rename_i ds z
            obtain ⟨ps, p, j, zz, g1, g2, g3, g4, g5, g6, g7, rfl⟩ := idxG_some h3
            have dd := Rp.dp _ _ (.tuple ps) (rr1.up R2.sub) (by unfold toPy; rw [g1]; rfl)
            have d2 := Rp.dp _ _ p (rr2.up R2.sub) g2
            cases rr1 with
            | tup b1 b2 => exact .inr ⟨_, v2, p, ps, j, zz, rfl, rfl, dd, d2, by rw [shaped_lt]; exact g3, g4, g5, g6, g7, k (.val (.int _)) _ _ _ _ s2 R2 (.int _) q2⟩
          · cases h3
      | lst ds0 =>
        refine .inr (ho.sim f Hb env σ H (fun w' e' => w' = w ∧ e' = e1) QX _ R (start _ ⟨rfl, rfl⟩) px fun w1 env1 v1 H1 Hb1 s1 R1 r1 q1 => ?_)
        obtain ⟨rfl, rfl⟩ := q1
        obtain ⟨Hb1', s1', R1', r1'⟩ := R1.fzv r1
        have rr := R1'.rd (RS.rw r1') hV
        cases rr with
        | lst a1 a2 =>
          refine ⟨.inl ⟨rfl, _, .of a1⟩, ?_⟩
          refine run2 R1' r1' (s1.trans s1') q fun d1 d2 w' env2 v2 H2 Hb2 s2 R2 rr1 rr2 h3 q2 => ?_
          unfold fIdxL at h3
          split at h3
          · rename_i ds z
            cases h4 : strsOf ds with
            | none => rw [h4] at h3; cases h3
            | some ys =>
              rw [h4] at h3
              have h3 : (posS z ys 0).map (fun j => W.val (.int (j : Nat))) = some w' := h3
              cases h5 : posS z ys 0 with
              | none => rw [h5] at h3; cases h3
              | some j =>
                rw [h5] at h3
                cases h3
                obtain ⟨i, e0, h6, h7⟩ := posS_is h5
                obtain rfl : j = i := by omega
                cases rr2
                cases rr1 with
                | lst b1 b2 =>
                  rw [strsOf_some h4] at b2
                  rw [RpL.strs b2] at b1
                  refine .inl ⟨_, ys.map V.str, .str z, j, .str z, rfl, rfl, .of b1, rfl, flat_strs ys, by rw [List.getElem?_map, h6]; rfl, by show (z == z) = true; exact beq_self_eq_true z, fun m z' hm hz => ?_, k (.val (.int _)) _ _ _ _ s2 R2 (.int _) q2⟩
                  rw [List.getElem?_map] at hz
                  cases h8 : ys[m]? with
                  | none => rw [h8] at hz; cases hz
                  | some y =>
                    rw [h8] at hz
                    cases hz
                    have ne : y ≠ z := fun e => h7 m hm (by rw [h8, e])
                    exact beq_eq_false_iff_ne.mpr ne
          · rename_i ds z
            obtain ⟨ps, p, j, zz, g1, g2, g3, g4, g5, g6, g7, rfl⟩ := idxG_some h3
            have dd := Rp.dp _ _ (.list ps) (rr1.up R2.sub) (by unfold toPy; rw [g1]; rfl)
            have d2 := Rp.dp _ _ p (rr2.up R2.sub) g2
            cases rr1 with
            | lst b1 b2 => exact .inr ⟨_, v2, p, ps, j, zz, rfl, rfl, dd, d2, g3, g4, g5, g6, g7, k (.val (.int _)) _ _ _ _ s2 R2 (.int _) q2⟩
          · rename_i ds z
            obtain ⟨ps, p, j, zz, g1, g2, g3, g4, g5, g6, g7, rfl⟩ := idxG_some h3
            have dd := Rp.dp _ _ (.list ps) (rr1.up R2.sub) (by unfold toPy; rw [g1]; rfl)
            have d2 := Rp.dp _ _ p (rr2.up R2.sub) g2
            cases rr1 with
            | lst b1 b2 => exact .inr ⟨_, v2, p, ps, j, zz, rfl, rfl, dd, d2, g3, g4, g5, g6, g7, k (.val (.int _)) _ _ _ _ s2 R2 (.int _) q2⟩
          · cases h3
      | _ => exact q.elim
end
end
end VL
set_option Elab.async false
set_option linter.all false
set_option maxRecDepth 100000
set_option maxHeartbeats 4000000
namespace VL
noncomputable section
open PySem PySem.Spec PyProof.Rows L2
section
variable {X : Cx} {C : Addr} {bmB : List Value} {B newId initId : String}
theorem pmk_own0 {x : Str} {p pos : Pos} (F : ExcBaseFacts B newId initId bmB) (q : PySem.W.excIn X.K C bmB newId = true) (gC : X.mg x = some (.ref C)) (kC : PySem.W.keepIn X.K (.ref C) = true) (r : Raises X (.ref C)) (hg : Gl X x)
    (hdb : (x == ("__debug__" : Str)) = false := by decide) : L2N.PMk X (.Call (.Name x p) [] [] pos) (fun _ H Q => Q (.ref C) none H) := by
  intro pins s σ H Q I h
  refine wpAny_Call_Name_kw (ld_glob I hg gC ?_ hdb)
  refine PySem.W.callWith_K0 I.kIn kC ?_
  show wpAny _ _ (call (.ref C) []) _ _ _
  obtain ⟨bm, N, nm, qn, bs, hdct, sn, sub, ab, col, dd, k0, k1, k2, k3, k5, mN, hC, hN, hni, T⟩ := exc_obj I.kIn q
  refine wpAny_call_exc_subT F T hC hN hni (fun h' e hm => ?_) (Nat.zero_le _)
  exact L2N.mk_of I hm r h (I.hok.gone hm.new)
end
variable [CM]
structure ExcK (K : PySem.W.Frag) (mg : Str → Option Value) (C : Str) : Prop where
  q : PySem.W.excIn K (CM.at_ C) [.type "ValueError", .type "Exception", .type "BaseException", .type "object"] "ValueError.__new__" = true
  g : mg C = some (.ref (CM.at_ C))
  kp : PySem.W.keepIn K (.ref (CM.at_ C)) = true
  sb : PySem.W.subIn K (.ref (CM.at_ C)) (.type "BaseException") = some true
  ty : PySem.W.typeIn K (.ref (CM.at_ C)) = some (.type "type")
  is : IsExc K C
section
variable {c : VC} {Wx : WX} {X : Cx}
@[simp] def mRaise (C : Str) (e : Env) : SR := .ex C [] e
theorem fst_raise0 {C : Str} {p pos pos2 : Pos} (E : ExcK X.K X.mg C) (tk : L2N.Takes X Wx) (hc : X.calm = true := by rfl) (hg : Gl X C := by rfl) (hdb : (C == ("__debug__" : Str)) = false := by decide) :
    FSt X c Wx (.Raise (some (.Call (.Name C p) [] [] pos)) none pos2) (fun _ σ H => Wx (.ref (CM.at_ C)) none σ H) (mRaise C) :=
  (vst_raise (t := fun env Q _ => Q C [] env) tk ⟨pmk_own0 PySem.F.excBase_ValueError E.q E.g E.kp (raises_own E.sb E.ty) hg hdb, fun f Hb env σ H Q QX Q' R h px k => k C [] env none H Hb (Same.refl _) R ⟨E.is, .inl ⟨rfl, rfl⟩⟩ h⟩ hc).weak fun DV env h => h
end
end
end VL
set_option Elab.async false
set_option linter.all false
set_option maxRecDepth 100000
set_option maxHeartbeats 4000000
namespace VL
noncomputable section
open PySem PySem.Spec PyProof.Rows L2
def clsB (s : Stmt) (j : Nat) : Stmt := match s with
  | .ClassDef _ _ _ b _ _ _ _ _ _ _ => b.getD j (.Pass ⟨0, 0, 0, 0⟩)
  | _ => .Pass ⟨0, 0, 0, 0⟩
variable [CM]
section
variable {c : VC} {Wx : WX} {X : Cx}
theorem fe_makeK {C : Str} {j k : Nat} {ps : List Str} {F : FN} {fa : Addr} {fd : FuncData} {p pos : Pos} {e : Expr} {es : List Expr} {t : TA} {v : MA} (hk : j + 1 ≤ k) (M : CCallee X.prog X.w X.K X.mg X.base c.T C j ps (spF F) fa fd) (hr : Room k X.A) (hx : L2N.Takes X Wx)
    (ha : FA X c Wx (e :: es) t v) (hg : Gl X C := by rfl) (hdb : (C == ("__debug__" : Str)) = false := by decide) (he : starEach (e :: es) X.env = (false, eval e X.env) :: starEach es X.env := by rfl) (hpl : (backTo pos (starEach es X.env)).any (·.1) = false := by rfl) :
    FE X c Wx (.Call (.Name C p) (e :: es) [] pos) (tMakeSD (CM.at_ C) (spOf X.K c.T (spF F)) (WE Wx) t) (mMake F C v) := fe_make M (hr.mono hk) hx ha hg hdb he hpl
end
theorem VGt.re {X : Cx} {c : VC} {ss : List Nat} {tg : Expr} {g g' : TG} {vg : VG} (h : VGt X c ss tg g vg) (e : g = g') : VGt X c ss tg g' vg := e ▸ h
section
variable {K : PySem.W.Frag} {mg : Str → Option Value} {C : Str} {a : Addr}
theorem at_cls (e : CM.at_ C = a) (h : Cls K a) : Cls K (CM.at_ C) := by rw [e]; exact h
theorem at_no (e : CM.at_ C = a) {f : Str} (h : PySem.W.findIn K (.ref a) f = some none) : NoAttr K (CM.at_ C) f := by rw [e]; exact h
theorem at_funI (e : CM.at_ C = a) {qual : Str} {st : Stmt} {ps : List Str} {f : Addr} {fd : FuncData} (F : Fun K "__init__" qual st f fd) (cl : Cls K a) (g : mg C = some (.ref a)) (h1 : PySem.W.makesIn K a = true) (h2 : PySem.W.findIn K (.ref a) "__init__" = some (some (.ref f))) (h3 : PySem.W.isFn K (.ref f) = true) (h4 : PySem.W.keepIn K (.ref a) = true) (b : Binds K fd ps []) : FunI K mg C qual st ps f fd :=
  ⟨F, at_cls e cl, by rw [e]; exact g, by rw [e]; exact ⟨h1, h2, h3, h4⟩, b⟩
theorem kit_ve (h : PySem.W.subIn K (.ref a) (.type "ValueError") = some true) : PySem.W.kitOne K (.ref a) (.type "ValueError") = some true := by
  unfold PySem.W.kitOne
  split
  · rfl
  · show (if PySem.W.kitMeta "ValueError" = true then PySem.W.subIn K (.ref a) (.type "ValueError") else none) = some true
    rw [if_pos (by decide +kernel)]; exact h
theorem at_exc (e : CM.at_ C = a) (g : mg C = some (.ref a)) (q : PySem.W.excIn K a [.type "ValueError", .type "Exception", .type "BaseException", .type "object"] "ValueError.__new__" = true) (kp : PySem.W.keepIn K (.ref a) = true) (sb : PySem.W.subIn K (.ref a) (.type "BaseException") = some true) (ty : PySem.W.typeIn K (.ref a) = some (.type "type"))
    (h1 : PySem.W.findIn K (.ref a) "__getattribute__" = some (some (.builtin "BaseException.__getattribute__"))) (h2 : PySem.W.findIn K (.ref a) "__getattr__" = some none) (h3 : PySem.W.hasDictIn K a = true) (h4 : PySem.W.findIn K (.ref a) "__class__" = some (some (.builtin "object.__class__")))
    (h5 : PySem.W.specialIn K (.builtin "object.__class__") "__get__" = some (some (.builtin "getset_descriptor.__get__"))) (h6 : PySem.W.takesIn K (.builtin "object.__class__") = some true) (h7 : PySem.W.mroIn K a (.type "object") = some true) (hv : PySem.W.subIn K (.ref a) (.type "ValueError") = some true)
    (hcl : PySem.W.isClsIn K a = true) (n1 : PySem.W.findIn K (.ref a) "name" = some none) (n2 : PySem.W.findIn K (.ref a) "at" = some none) (n3 : PySem.W.findIn K (.ref a) "count" = some none)
    (hs : ∀ Y ∈ CM.xs, PySem.W.exmOne K (.ref a) (.ref (CM.at_ Y)) = some (isXb C Y) ∧ PySem.W.kitOne K (.ref a) (.ref (CM.at_ Y)) = some (isXb C Y)) : ExcK K mg C :=
  ⟨by rw [e]; exact q, by rw [e]; exact g, by rw [e]; exact kp, by rw [e]; exact sb, by rw [e]; exact ty, ⟨by rw [e]; exact ⟨h1, h2, sb, h3, h4, h5, h6, h7⟩, by rw [e]; exact hs, by rw [e]; exact kit_ve hv, by rw [e]; exact hcl, by rw [e]; exact fun f hf => by rcases hf with rfl | rfl | rfl <;> assumption⟩⟩
end
end
end VL
set_option Elab.async false
set_option linter.all false
set_option maxRecDepth 100000
set_option maxHeartbeats 4000000
namespace VL
open PySem PySem.Spec PyProof.Rows L2
noncomputable def F_path_words : FN := fnM 1 1 [] (mSeq (mIfS (mTst (mOp (fEq false) (mName 0) (mC (.str "")))) (mRet [] (mTup mNil)) mNext)
    (mRet [] (mCB fTuple (mCons (mSS splitS (mName 0) (mC (.str "/"))) mNil))))
noncomputable def F_beginning : FN := fnM 2 2 [] (mRet [] (mSM fJoin (mC (.str "/")) (mSl (mCall F_path_words (mCons (mName 0) mNil)) mNoPart (mPart (mName 1)))))
noncomputable def F_level_members : FN := fnM 2 5 [] (mSeq (mOwn 2 (mLst mNil))
    (mSeq (mFor (mIt (mName 0)) (gmName 3) (mKill [3, 4] (mSeq (mSet 4 (mCall F_beginning (mCons (mName 3) (mCons (mName 1) mNil))))
    (mIfS (mOrT (mTst (mOp (fEq false) (mCB fLen (mCons (mName 2) mNil)) (mC (.int 0)))) (mTst (mOp (fEq true) (mOp fIx (mName 2) (mNeg (mC (.int 1)))) (mName 4)))) (mExpr (mApp (mName 2) (mName 4))) mNext))))
    (mRet [] (mCB fTuple (mCons (mName 2) mNil)))))
variable [CM]
theorem slash_tx : Str.ofString "/" = tx [47] := by decide +kernel
theorem nil_tx : Str.ofString "" = tx [] := by decide +kernel
def clean (w : List Nat) : Prop := w ≠ [] ∧ 47 ∉ w
def pathT (ws : List (List Nat)) : List Nat := TL.joinL [47] ws
theorem pathT_nil : pathT [] = [] := rfl
theorem pathT_ne {ws : List (List Nat)} (h : ws ≠ []) (hc : ∀ w ∈ ws, clean w) : pathT ws ≠ [] := by
  cases ws with
  | nil => exact absurd rfl h
  | cons w r =>
    have hw := (hc w (List.mem_cons_self ..)).1
    cases r with
    | nil => simpa [pathT, TL.joinL] using hw
    | cons v r => simp [pathT, TL.joinL]
theorem split_path {ws : List (List Nat)} (h : ws ≠ []) (hc : ∀ w ∈ ws, clean w) : Txt.split (tx (pathT ws)) (tx [47]) = ws.map tx := by
  have := SX.split_S (a := pathT ws) (b := [47]) (by simp) (by decide)
  refine this.trans ?_
  rw [show TL.spl [47] 0 [] (pathT ws) = ws from SX.spl_join h fun p hp => (hc p hp).2]
  rfl
theorem path_words_eq {ws : List (List Nat)} (hc : ∀ w ∈ ws, clean w) (hl : (pathT ws).length ≤ 16777214) : F_path_words [.val (dT (pathT ws))] = .ok (.val (.tup (ws.map dT))) [.val (dT (pathT ws))] := by
  by_cases h : ws = []
  · subst h
    simp [F_path_words, nil_tx, pathT_nil]
  · have h1 := pathT_ne h hc
    simp [F_path_words, nil_tx, h1, slash_tx, hl, split_path h hc]
theorem cutD_to (ds : List D) (n : Nat) : cutD ds none (some (n : Int)) = ds.take n := by
  unfold cutD
  rw [HT.sIx_none, HT.sIx_nat, Nat.sub_zero, List.drop_zero]
  by_cases h : n ≤ ds.length
  · rw [Nat.min_eq_left h]
  · rw [Nat.min_eq_right (by omega), List.take_of_length_le (Nat.le_refl _), List.take_of_length_le (by omega)]
theorem cutD_from (ds : List D) (n : Nat) : cutD ds (some (n : Int)) none = ds.drop n := by
  unfold cutD
  rw [HT.sIx_none, HT.sIx_nat]
  by_cases h : n ≤ ds.length
  · rw [Nat.min_eq_left h, List.take_of_length_le (by simp)]
  · rw [Nat.min_eq_right (by omega), List.drop_eq_nil_of_le (as := ds) (i := n) (by omega)]; simp
def szP (ws : List (List Nat)) : Nat := (ws.map List.length).sum + ws.length
theorem pathT_len : ∀ ws : List (List Nat), (pathT ws).length ≤ szP ws
  | [] => Nat.le_refl _
  | [w] => by simp [pathT, TL.joinL, szP]
  | w :: v :: r => by
    have ih := pathT_len (v :: r)
    have e : pathT (w :: v :: r) = w ++ ([47] ++ pathT (v :: r)) := rfl
    rw [e]
    simp only [szP, List.map_cons, List.sum_cons, List.length_cons, List.length_append] at ih ⊢
    simp only [List.length_nil]
    omega
theorem szP_take (ws : List (List Nat)) (n : Nat) : szP (ws.take n) ≤ szP ws := by
  induction ws generalizing n with
  | nil => simp [szP]
  | cons w ws ih =>
    cases n with
    | zero => simp [szP]
    | succ n =>
      have := ih n
      simp only [szP, List.take_succ_cons, List.map_cons, List.sum_cons, List.length_cons] at this ⊢
      omega
theorem beginning_eq {ws : List (List Nat)} {n : Nat} (hc : ∀ w ∈ ws, clean w) (hl : szP ws ≤ 1000000) : F_beginning [.val (dT (pathT ws)), .val (.int n)] = .ok (.val (dT (pathT (ws.take n)))) [.val (dT (pathT ws)), .val (.int n)] := by
  have h1 : (pathT ws).length ≤ 16777214 := by have := pathT_len ws; omega
  have h2 := szP_take ws n
  have e : cutD (ws.map dT) none (some (n : Int)) = ((ws.take n).map tx).map D.str := by rw [cutD_to, List.map_map, List.map_take]; rfl
  have h3 : (((ws.take n).map tx).map (·.length)).sum + ((ws.take n).map tx).length * (tx [47]).length ≤ 16777216 := by
    have : ((ws.take n).map tx).map (·.length) = (ws.take n).map List.length := by rw [List.map_map]; exact List.map_congr_left fun x _ => tx_len x
    rw [this]
    simp only [tx_len, List.length_map, List.length_singleton, Nat.mul_one]
    unfold szP at h2 hl; omega
  have j : Txt.join (tx [47]) ((ws.take n).map tx) = tx (pathT (ws.take n)) := SX.join_S [47] (ws.take n)
  have js : joinS (tx [47]) ((ws.take n).map tx) = some (.val (.str (tx (pathT (ws.take n))))) := by rw [joinS_of h3, j]
  simp [F_beginning, path_words_eq hc h1, slash_tx, e, js, -List.map_take, -List.map_map]
theorem pathT_inj {a b : List (List Nat)} (ha : ∀ w ∈ a, clean w) (hb : ∀ w ∈ b, clean w) (h : pathT a = pathT b) : a = b := by
  by_cases ea : a = []
  · by_cases eb : b = []
    · rw [ea, eb]
    · subst ea
      exact absurd h.symm (pathT_ne eb hb)
  · by_cases eb : b = []
    · subst eb
      exact absurd h (pathT_ne ea ha)
    · rw [← show TL.spl [47] 0 [] (pathT a) = a from SX.spl_join ea fun p hp => (ha p hp).2, h]
      exact SX.spl_join eb fun p hp => (hb p hp).2
theorem atI_last {α : Type} (xs : List α) (x : α) : atI (xs ++ [x]) (-1) = some x := by
  unfold atI
  have e : ixN (xs ++ [x]).length (-1) = some xs.length := by
    unfold ixN
    simp only [List.length_append, List.length_singleton]
    first
      | (rw [if_neg (by omega), if_pos (by omega)]; congr 1; omega)
      | (split <;> first | omega | (split <;> first | omega | (congr 1; omega)))
  rw [e]
  simp
theorem loop_pre {ι : Type} {g : GM} {b : MS} (mk : List ι → Env) (en : ι → D) (xs : List ι) (h : ∀ pre x post, xs = pre ++ x :: post → turnM g b (en x) (mk pre) = .nx (mk (pre ++ [x]))) : loopM g b (xs.map en) (mk []) = .nx (mk xs) := by
  have key : ∀ post pre, xs = pre ++ post → loopM g b (post.map en) (mk pre) = .nx (mk xs) := by
    intro post
    induction post with
    | nil => intro pre e; rw [e, List.append_nil]; rfl
    | cons x post ih =>
      intro pre e
      rw [List.map_cons, loop_cons, h pre x post e]
      exact ih (pre ++ [x]) (by rw [e]; simp)
  exact key xs [] rfl
def ddStep (acc : List (List (List Nat))) (x : List (List Nat)) : List (List (List Nat)) := if acc.getLast? = some x then acc else acc ++ [x]
def members (ls : List (List (List Nat))) (n : Nat) : List (List (List Nat)) := (ls.map (List.take n)).foldl ddStep []
def leafD (ws : List (List Nat)) : D := dT (pathT ws)
def okL (ls : List (List (List Nat))) : Prop := (∀ ws ∈ ls, (∀ w ∈ ws, clean w) ∧ szP ws ≤ 1000000) ∧ ls.length ≤ 1000
theorem dd_snoc (l : List (List (List Nat))) (x : List (List Nat)) : (l ++ [x]).foldl ddStep [] = ddStep (l.foldl ddStep []) x := by simp
theorem dd_sub : ∀ (l : List (List (List Nat))) (acc : List (List (List Nat))), (∀ x ∈ l.foldl ddStep acc, x ∈ acc ∨ x ∈ l) ∧ (l.foldl ddStep acc).length ≤ acc.length + l.length
  | [], acc => ⟨fun x h => .inl h, by simp⟩
  | y :: l, acc => by
    obtain ⟨h1, h2⟩ := dd_sub l (ddStep acc y)
    refine ⟨fun x hx => ?_, ?_⟩
    · rcases h1 x hx with h | h
      · unfold ddStep at h
        split at h
        · exact .inl h
        · rcases List.mem_append.mp h with h | h
          · exact .inl h
          · exact .inr (by simp at h; simp [h])
      · exact .inr (List.mem_cons_of_mem _ h)
    · have : (ddStep acc y).length ≤ acc.length + 1 := by unfold ddStep; split <;> simp
      simp only [List.foldl_cons, List.length_cons] at h2 ⊢
      omega
theorem level_members_eq {ls : List (List (List Nat))} {n : Nat} (h : okL ls) : F_level_members [.val (.tup (ls.map leafD)), .val (.int n)] = .ok (.val (.tup ((members ls n).map leafD))) [.val (.tup (ls.map leafD)), .val (.int n)] := by
  have key := loop_pre (g := gmName 3) (b := mKill [3, 4] (mSeq (mSet 4 (mCall F_beginning (mCons (mName 3) (mCons (mName 1) mNil))))
    (mIfS (mOrT (mTst (mOp (fEq false) (mCB fLen (mCons (mName 2) mNil)) (mC (.int 0)))) (mTst (mOp (fEq true) (mOp fIx (mName 2) (mNeg (mC (.int 1)))) (mName 4)))) (mExpr (mApp (mName 2) (mName 4))) mNext)))
    (fun pre : List (List (List Nat)) => [some (.val (.tup (ls.map leafD))), some (.val (.int n)), some (.own (.lst ((members pre n).map leafD))), none, none]) leafD ls (by
      intro pre x post e
      have hx : x ∈ ls := by rw [e]; simp
      obtain ⟨hc, hl⟩ := h.1 x hx
      have hm : members (pre ++ [x]) n = ddStep (members pre n) (x.take n) := by unfold members; rw [List.map_append]; exact dd_snoc _ _
      rw [hm]
      obtain ⟨hs, hlen⟩ := dd_sub (pre.map (List.take n)) []
      have hlen2 : (members pre n).length < 16777216 := by
        have : ls.length ≤ 1000 := h.2
        rw [e] at this
        simp only [List.length_append, List.length_cons, List.length_map, List.length_nil] at this hlen
        unfold members; omega
      have hcl : ∀ y ∈ members pre n, ∀ w ∈ y, clean w := by
        intro y hy w hw
        rcases hs y hy with z | z
        · cases z
        · obtain ⟨x', hx', rfl⟩ := List.mem_map.mp z
          exact (h.1 x' (by rw [e]; simp [hx'])).1 w (List.mem_of_mem_take hw)
      generalize members pre n = acc at hlen2 hcl
      have hb := beginning_eq (n := n) hc hl
      rcases List.eq_nil_or_concat acc with rfl | ⟨ys, y, rfl⟩
      · simp [leafD, hb, ddStep]
      · rw [List.concat_eq_append] at *
        have hz : (ys ++ [y]).length ≤ 16777216 := by omega
        have ea : atI (ys.map leafD ++ [dT (pathT y)]) (-1) = some (dT (pathT y)) := atI_last _ _
        have hn : ¬ ((ys.length : Int) + 1 = 0) := by omega
        have hz2 : ys.length + 1 < 16777216 := by simpa using hlen2
        have hz3 : ys.length + 1 ≤ 16777216 := by omega
        have hyc : ∀ w ∈ y, clean w := hcl y (by simp)
        by_cases hq : y = x.take n
        · have hd : ddStep (ys ++ [y]) (x.take n) = ys ++ [y] := by unfold ddStep; simp [hq]
          rw [hd]
          subst hq
          simp [leafD, hb, ea, hn, hz3]
        · have hd : ddStep (ys ++ [y]) (x.take n) = ys ++ [y] ++ [x.take n] := by unfold ddStep; simp [hq]
          rw [hd]
          have hne : pathT y ≠ pathT (x.take n) := fun z => hq (pathT_inj hyc (fun w hw => hc w (List.mem_of_mem_take hw)) z)
          simp [leafD, hb, ea, hn, hz2, hz3, hne])
  simp [F_level_members]
  have e0 : ([] : List D) = (members [] n).map leafD := rfl
  rw [e0, key]
  have hz : ((members ls n).map leafD).length ≤ 16777216 := by
    obtain ⟨hs, hlen⟩ := dd_sub (ls.map (List.take n)) []
    have := h.2
    simp only [List.length_map, List.length_nil] at hlen ⊢
    unfold members; omega
  simp
end VL
set_option Elab.async false
set_option linter.all false
set_option maxRecDepth 100000
set_option maxHeartbeats 4000000
namespace VL
open PySem PySem.Spec PyProof.Rows L2
noncomputable def F_are_leaves : FN := fnM 1 5 [] (mSeq (mIfS (mOrT (mTst (mOp fLt (mCB fLen (mCons (mName 0) mNil)) (mC (.int 2)))) (mTst (mOp fGt (mCB fLen (mCons (mName 0) mNil)) (mC (.int 8))))) (mRet [] (mC (.bl false))) mNext)
    (mSeq (mSet 1 (mCB fLen (mCons (mCall F_path_words (mCons (mOp fIx (mName 0) (mC (.int 0))) mNil)) mNil)))
    (mSeq (mIfS (mOrT (mTst (mOp fLt (mName 1) (mC (.int 1)))) (mTst (mOp fGt (mName 1) (mC (.int 3))))) (mRet [] (mC (.bl false))) mNext)
    (mSeq (mFor (mRng (mCons (mCB fLen (mCons (mName 0) mNil)) mNil)) (gmName 2) (mKill [2, 3] (mSeq (mSet 3 (mCall F_path_words (mCons (mOp fIx (mName 0) (mName 2)) mNil)))
    (mSeq (mIfS (mOrT (mTst (mOp (fEq true) (mCB fLen (mCons (mName 3) mNil)) (mName 1))) (mNotT (mTst (mAG true [] (mIt (mName 3)) (gmName 4) (mCall F_is_word (mCons (mName 4) mNil)) [4])))) (mRet [] (mC (.bl false))) mNext)
    (mIfS (mAndT (mTst (mOp fGt (mName 2) (mC (.int 0)))) (mTst (mOp fGe (mOp fIx (mName 0) (mOp fSub (mName 2) (mC (.int 1)))) (mOp fIx (mName 0) (mName 2))))) (mRet [] (mC (.bl false))) mNext)))))
    (mRet [] (mC (.bl true)))))))
noncomputable def F_are_dimensions : FN := fnM 1 5 [] (mSeq (mIfS (mOrT (mTst (mOp fLt (mCB fLen (mCons (mName 0) mNil)) (mC (.int 1)))) (mTst (mOp fGt (mCB fLen (mCons (mName 0) mNil)) (mC (.int 3))))) (mRet [] (mC (.bl false))) mNext)
    (mSeq (mSet 1 (mC (.int 1)))
    (mSeq (mOwn 2 (mLst mNil))
    (mSeq (mFor (mIt (mName 0)) (gmTup 2 (gmCons (gmName 3) (gmCons (gmName 4) gmNil))) (mKill [3, 4] (mSeq (mIfS (mOrT (mNotT (mTst (mCall F_is_word (mCons (mName 3) mNil)))) (mOrT (mTst (mOp (fIn false) (mName 3) (mName 2))) (mNotT (mTst (mCall F_are_leaves (mCons (mName 4) mNil)))))) (mRet [] (mC (.bl false))) mNext)
    (mSeq (mExpr (mApp (mName 2) (mName 3)))
    (mSet 1 (mOp fMul (mName 1) (mCB fLen (mCons (mName 4) mNil))))))))
    (mRet [] (mOp fLe (mName 1) (mC (.int 48))))))))
variable [CM]
theorem loop_const {ι : Type} {g : GM} {b : MS} {e : Env} (en : ι → D) (xs : List ι) (h : ∀ x ∈ xs, turnM g b (en x) e = .nx e) : loopM g b (xs.map en) e = .nx e := by
  have := loop_search (g := g) (b := b) (e := e) (e' := e) (w := .val .non) en (fun _ => false) xs (by simpa using h)
  simpa using this
theorem isWord_clean {w : List Nat} (h : isWord w = true) : clean w ∧ w.length ≤ 8 := by
  unfold isWord at h
  simp only [Bool.and_eq_true, decide_eq_true_eq, List.all_eq_true] at h
  obtain ⟨⟨⟨h1, h2⟩, h3⟩, h4⟩ := h
  refine ⟨⟨fun e => by rw [e] at h1; simp at h1, fun h5 => ?_⟩, h2⟩
  have := h4 47 h5
  revert this; decide
structure GoodL (ls : List (List (List Nat))) (d : Nat) : Prop where
  lo : 2 ≤ ls.length
  hi : ls.length ≤ 8
  d1 : 1 ≤ d
  d3 : d ≤ 3
  wd : ∀ ws ∈ ls, ws.length = d ∧ ∀ w ∈ ws, isWord w = true
  up : ∀ i a b, ls[i]? = some a → ls[i + 1]? = some b → strLt (tx (pathT a)) (tx (pathT b)) = true
theorem szP_le {n : Nat} : ∀ {ws : List (List Nat)}, (∀ w ∈ ws, w.length ≤ n) → szP ws ≤ (n + 1) * ws.length
  | [], _ => by simp [szP]
  | w :: ws, h => by
    have ih := szP_le (n := n) (ws := ws) fun w hw => h w (List.mem_cons_of_mem _ hw)
    have := h w (List.mem_cons_self ..)
    simp only [szP, List.map_cons, List.sum_cons, List.length_cons, Nat.mul_add, Nat.mul_one] at ih ⊢
    omega
theorem GoodL.leaf {ls : List (List (List Nat))} {d : Nat} (g : GoodL ls d) {ws : List (List Nat)} (h : ws ∈ ls) : (∀ w ∈ ws, clean w) ∧ szP ws ≤ 100 := by
  obtain ⟨h1, h2⟩ := g.wd ws h
  refine ⟨fun w hw => (isWord_clean (h2 w hw)).1, ?_⟩
  have := szP_le (n := 8) (ws := ws) fun w hw => (isWord_clean (h2 w hw)).2
  have := g.d3
  omega
theorem GoodL.ok {ls : List (List (List Nat))} {d : Nat} (g : GoodL ls d) : okL ls := ⟨fun ws h => ⟨(g.leaf h).1, by have := (g.leaf h).2; omega⟩, by have := g.hi; omega⟩
theorem GoodL.words {ls : List (List (List Nat))} {d : Nat} (g : GoodL ls d) {ws : List (List Nat)} (h : ws ∈ ls) : F_path_words [.val (leafD ws)] = .ok (.val (.tup (ws.map dT))) [.val (leafD ws)] :=
  path_words_eq (g.leaf h).1 (by have := pathT_len ws; have := (g.leaf h).2; omega)
theorem are_leaves_eq {ls : List (List (List Nat))} {d : Nat} (g : GoodL ls d) : F_are_leaves [.val (.tup (ls.map leafD))] = .ok (.val (.bl true)) [.val (.tup (ls.map leafD))] := by
  have h1 : ¬ ls.length < 2 := by have := g.lo; omega
  have h2 : ¬ 8 < ls.length := by have := g.hi; omega
  have h3 : ls.length ≤ 16777216 := by have := g.hi; omega
  have h4 : ls.length < 4611686018427387904 := by omega
  obtain ⟨ws0, r, hls⟩ : ∃ a r, ls = a :: r := by
    cases ls with
    | nil => have := g.lo; simp at this
    | cons a r => exact ⟨a, r, rfl⟩
  have m0 : ws0 ∈ ls := by rw [hls]; simp
  have hw0 := g.words m0
  have hd0 : ws0.length = d := (g.wd ws0 m0).1
  have a0 : atI (ls.map leafD) 0 = some (leafD ws0) := by rw [hls]; exact atI_nat (j := 0) rfl
  have hd1 : ¬ d < 1 := by have := g.d1; omega
  have hd2 : ¬ 3 < d := by have := g.d3; omega
  have hd3 : d ≤ 16777216 := by have := g.d3; omega
  simp [F_are_leaves, h1, h2, h3, h4, a0, hw0, hd0, hd1, hd2, hd3]
  rw [loop_const]
  · simp
  · intro i hi
    have hi : i < ls.length := by simpa using hi
    have ai : atI (ls.map leafD) (i : Int) = some (leafD ls[i]) := atI_nat (by rw [List.getElem?_map, List.getElem?_eq_getElem hi]; rfl)
    have mi : ls[i] ∈ ls := List.getElem_mem hi
    have hwi := g.words mi
    have hdi : ls[i].length = d := (g.wd _ mi).1
    have hall : ∀ w ∈ ls[i], isWord w = true := (g.wd _ mi).2
    simp [ai, hwi, hdi, hd3]
    rw [all_of (en := dT) (p := isWord)]
    · have hT : ls[i].all isWord = true := List.all_eq_true.mpr hall
      cases i with
      | zero => simp [hT]
      | succ j =>
        have hj : j < ls.length := by omega
        have aj : atI (ls.map leafD) (j : Int) = some (leafD ls[j]) := atI_nat (by rw [List.getElem?_map, List.getElem?_eq_getElem hj]; rfl)
        have ai' : atI (ls.map leafD) ((j : Int) + 1) = some (leafD ls[j + 1]) := ai
        have hup := g.up j ls[j] ls[j + 1] (List.getElem?_eq_getElem hj) (List.getElem?_eq_getElem hi)
        have hp : (0 : Int) < (j : Int) + 1 := by omega
        simp [hT, hp, aj, ai', leafD, hup]
    · intro w hw
      have : w.length ≤ 16777216 := by have := (isWord_clean (hall w hw)).2; omega
      simp [is_word_eq w this]
theorem inSeq_tx (x : List Nat) : ∀ l : List (List Nat), inSeq (dT x) (l.map dT) = some (decide (x ∈ l))
  | [] => by simp [inSeq]
  | y :: l => by
    have ih := inSeq_tx x l
    simp [inSeq, tx_beq] at ih ⊢
    rw [ih]
    congr 1
    exact decide_eq_decide.mpr eq_comm
structure Dim where
  nm : List Nat
  ls : List (List (List Nat))
  dp : Nat
def Dim.d (m : Dim) : D := .tup [dT m.nm, .tup (m.ls.map leafD)]
def cellsN (ms : List Dim) : Nat := (ms.map fun m => m.ls.length).foldl (· * ·) 1
structure GoodD (ms : List Dim) : Prop where
  lo : 1 ≤ ms.length
  hi : ms.length ≤ 3
  good : ∀ m ∈ ms, isWord m.nm = true ∧ GoodL m.ls m.dp
  nd : (ms.map (·.nm)).Nodup
  few : cellsN ms ≤ 48
theorem cells_snoc (ms : List Dim) (m : Dim) : cellsN (ms ++ [m]) = cellsN ms * m.ls.length := by simp [cellsN]
theorem are_dimensions_eq {ms : List Dim} (g : GoodD ms) : F_are_dimensions [.val (.tup (ms.map Dim.d))] = .ok (.val (.bl true)) [.val (.tup (ms.map Dim.d))] := by
  have h1 : ¬ ms.length < 1 := by have := g.lo; omega
  have h2 : ¬ 3 < ms.length := by have := g.hi; omega
  have h3 : ms.length ≤ 16777216 := by have := g.hi; omega
  simp [F_are_dimensions, h1, h2, h3]
  have key := loop_pre (g := gmTup 2 (gmCons (gmName 3) (gmCons (gmName 4) gmNil))) (b := mKill [3, 4] (mSeq (mIfS (mOrT (mNotT (mTst (mCall F_is_word (mCons (mName 3) mNil)))) (mOrT (mTst (mOp (fIn false) (mName 3) (mName 2))) (mNotT (mTst (mCall F_are_leaves (mCons (mName 4) mNil)))))) (mRet [] (mC (.bl false))) mNext)
    (mSeq (mExpr (mApp (mName 2) (mName 3)))
    (mSet 1 (mOp fMul (mName 1) (mCB fLen (mCons (mName 4) mNil)))))))
    (fun pre : List Dim => [some (.val (.tup (ms.map Dim.d))), some (.val (.int (cellsN pre : Nat))), some (.own (.lst (pre.map fun m => dT m.nm))), none, none]) Dim.d ms (by
      intro pre m post e
      have hm : m ∈ ms := by rw [e]; simp
      obtain ⟨g1, g2⟩ := g.good m hm
      have hw := is_word_eq m.nm (by have := (isWord_clean g1).2; omega)
      have hl := are_leaves_eq g2
      have hnd : ¬ m.nm ∈ pre.map (·.nm) := by
        have := g.nd
        rw [e, List.map_append, List.map_cons] at this
        intro z
        have := (List.nodup_append.mp this).2.2 _ z m.nm (by simp)
        exact this rfl
      have hin : inSeq (dT m.nm) (pre.map fun m => dT m.nm) = some false := by
        have := inSeq_tx m.nm (pre.map (·.nm))
        rw [List.map_map] at this
        rw [show (pre.map fun m : Dim => dT m.nm) = List.map (dT ∘ fun x : Dim => x.nm) pre from rfl, this]
        simp [hnd]
      have hlen : pre.length < 16777216 := by
        have : ms.length = pre.length + (post.length + 1) := by rw [e]; simp
        omega
      have hml : m.ls.length ≤ 16777216 := by have := g2.hi; omega
      have hmul : -18446744073709551616 < (m.ls.length : Int) ∧ (m.ls.length : Int) < 18446744073709551616 := by have := g2.hi; omega
      simp [Dim.d, hw, g1, hin, hl, hlen, hml, hmul, cells_snoc])
  rw [show ((cellsN [] : Nat) : Int) = 1 from rfl, List.map_nil] at key
  have hf := g.few
  rw [key]
  simp [hf]
end VL
set_option Elab.async false
set_option linter.all false
set_option maxRecDepth 100000
set_option maxHeartbeats 4000000
namespace VL
open PySem PySem.Spec PyProof.Rows L2
noncomputable def F_Space___init : FN := fnM 2 7 [0] (mSeq (mIfS (mNotT (mTst (mCall F_are_dimensions (mCons (mName 1) mNil)))) (mRaise "BadDimensions") mNext)
    (mSeq (mStF "Space" "dimensions" (mName 0) (mCB fTuple (mCons (mLc [0] (mIt (mName 1)) (gmTup 2 (gmCons (gmName 2) (gmCons (gmName 3) gmNil))) mYes (mTup (mCons (mName 2) (mCons (mCB fTuple (mCons (mName 3) mNil)) mNil))) [2, 3]) mNil)))
    (mSeq (mStF "Space" "table" (mName 0) (mCB fTuple (mCons (mLc [0] (mIt (mFld "Space" "dimensions" (mName 0))) (gmTup 2 (gmCons (gmName 2) (gmCons (gmName 3) gmNil))) mYes (mCB fTuple (mCons (mLc [0] (mRng (mCons (mOp fAdd (mCB fLen (mCons (mCall F_path_words (mCons (mOp fIx (mName 3) (mC (.int 0))) mNil)) mNil)) (mC (.int 1))) mNil)) (gmName 4) mYes (mCall F_level_members (mCons (mName 3) (mCons (mName 4) mNil))) [4]) mNil)) [2, 3]) mNil)))
    (mSeq (mStF "Space" "inner" (mName 0) (mCB fTuple (mCons (mLc [0] (mIt (mFld "Space" "table" (mName 0))) (gmName 6) mYes (mCB fTuple (mCons (mLc [0] (mRng (mCons (mCB fLen (mCons (mName 6) mNil)) mNil)) (gmName 4) mYes (mCB fTuple (mCons (mLc [0] (mIt (mOp fIx (mName 6) (mNeg (mC (.int 1))))) (gmName 5) mYes (mIdx (mOp fIx (mName 6) (mName 4)) (mCall F_beginning (mCons (mName 5) (mCons (mName 4) mNil)))) [5]) mNil)) [4]) mNil)) [6]) mNil)))
    (mSeq (mStF "Space" "many" (mName 0) (mC (.int 1)))
    (mFor (mIt (mFld "Space" "table" (mName 0))) (gmName 6) (mKill [6] (mStF "Space" "many" (mName 0) (mOp fMul (mFld "Space" "many" (mName 0)) (mCB fLen (mCons (mOp fIx (mName 6) (mNeg (mC (.int 1)))) mNil)))))))))))
variable [CM]
def rowD (m : Dim) : D := .tup ((List.range (m.dp + 1)).map fun l : Nat => D.tup ((members m.ls l).map leafD))
def grpOf (m : Dim) (l : Nat) (ws : List (List Nat)) : Nat := (members m.ls l).idxOf (ws.take l)
def innD (m : Dim) : D := .tup ((List.range (m.dp + 1)).map fun l : Nat => D.tup (m.ls.map fun ws => D.int (grpOf m l ws : Nat)))
def spaceF (ms : List Dim) : List (Str × D) := [("dimensions", .tup (ms.map Dim.d)), ("table", .tup (ms.map rowD)), ("inner", .tup (ms.map innD)), ("many", .int (cellsN ms : Nat))]
theorem strLt_irr (a : Str) : strLt a a = false := by
  have h : ∀ l : List Nat, Spec.ltCps l l = false := by
    intro l
    induction l with
    | nil => rfl
    | cons x l ih => simp [Spec.ltCps, ih]
  first | exact h _ | (unfold strLt; simp [h])
theorem GoodL.take {ls : List (List (List Nat))} {d : Nat} (g : GoodL ls d) : ls.map (List.take d) = ls := by
  have : ls.map (List.take d) = ls.map id := List.map_congr_left fun ws h => List.take_of_length_le (by rw [(g.wd ws h).1]; exact Nat.le_refl _)
  rw [this, List.map_id]
theorem dd_id : ∀ (l acc : List (List (List Nat))), (∀ i a b, (acc ++ l)[i]? = some a → (acc ++ l)[i + 1]? = some b → a ≠ b) → l.foldl ddStep acc = acc ++ l
  | [], acc, _ => by simp
  | x :: l, acc, h => by
    have hs : ddStep acc x = acc ++ [x] := by
      unfold ddStep
      rw [if_neg]
      intro z
      rcases List.eq_nil_or_concat acc with rfl | ⟨ys, y, rfl⟩
      · cases z
      · rw [List.concat_eq_append] at *
        have z : y = x := by simpa using z
        exact h ys.length y x (by simp) (by simp) z
    rw [List.foldl_cons, hs, dd_id l (acc ++ [x]) (by simpa using h)]
    simp
theorem GoodL.top {ls : List (List (List Nat))} {d : Nat} (g : GoodL ls d) : members ls d = ls := by
  unfold members
  rw [g.take]
  have := dd_id ls [] (by
    intro i a b ha hb e
    have ha : ls[i]? = some a := by simpa using ha
    have hb : ls[i + 1]? = some b := by simpa using hb
    have := g.up i a b ha hb
    rw [e, strLt_irr] at this
    cases this)
  simpa using this
theorem GoodL.first {ls : List (List (List Nat))} {d : Nat} (g : GoodL ls d) : ∃ ws, ws ∈ ls ∧ atI (ls.map leafD) 0 = some (leafD ws) := by
  cases ls with
  | nil => have := g.lo; simp at this
  | cons a r => exact ⟨a, by simp, atI_nat (j := 0) rfl⟩
theorem members_ok {ls : List (List (List Nat))} {d n : Nat} (g : GoodL ls d) : ∀ ws ∈ members ls n, ∃ v ∈ ls, ws = v.take n := by
  intro ws h
  rcases (dd_sub (ls.map (List.take n)) []).1 ws h with z | z
  · cases z
  · obtain ⟨v, h1, h2⟩ := List.mem_map.mp z
    exact ⟨v, h1, h2.symm⟩
theorem dd_mem : ∀ (l acc : List (List (List Nat))) (x : List (List Nat)), x ∈ acc ∨ x ∈ l → x ∈ l.foldl ddStep acc
  | [], acc, x, h => by simpa using h
  | y :: l, acc, x, h => by
    rw [List.foldl_cons]
    refine dd_mem l _ x ?_
    have hs : x ∈ acc ∨ x = y → x ∈ ddStep acc y := by
      intro h
      unfold ddStep
      split
      · rename_i z
        rcases h with h | rfl
        · exact h
        · exact List.mem_of_getLast? z
      · rcases h with h | rfl <;> simp [h]
    rcases h with h | h
    · exact .inl (hs (.inl h))
    · rcases List.mem_cons.mp h with rfl | h
      · exact .inl (hs (.inr rfl))
      · exact .inr h
theorem members_mem {ls : List (List (List Nat))} {n : Nat} {ws : List (List Nat)} (h : ws ∈ ls) : ws.take n ∈ members ls n := dd_mem _ _ _ (.inr (List.mem_map.mpr ⟨ws, h, rfl⟩))
theorem idx_first {l : List (List (List Nat))} {x : List (List Nat)} (h : x ∈ l) : l[l.idxOf x]? = some x ∧ ∀ m, m < l.idxOf x → l[m]? ≠ some x := by
  have hl : l.idxOf x < l.length := List.idxOf_lt_length_of_mem h
  refine ⟨by rw [List.getElem?_eq_getElem hl]; simp, fun m hm e => ?_⟩
  have := List.not_of_lt_findIdx (p := (· == x)) (xs := l) (i := m) hm
  have hml : m < l.length := by omega
  rw [List.getElem?_eq_getElem hml] at e
  simp at e
  simp [e] at this
theorem pos_members {m : Dim} {n : Nat} (g : GoodL m.ls m.dp) {ws : List (List Nat)} (h : ws ∈ m.ls) : posS (tx (pathT (ws.take n))) ((members m.ls n).map fun x => tx (pathT x)) 0 = some (grpOf m n ws) := by
  obtain ⟨h1, h2⟩ := idx_first (members_mem (n := n) h)
  have := posS_of (z := tx (pathT (ws.take n))) (ys := (members m.ls n).map fun x => tx (pathT x)) (j0 := 0) (i := grpOf m n ws) (by
    rw [List.getElem?_map]; unfold grpOf; rw [h1]; rfl) (fun k hk e => by
    rw [List.getElem?_map] at e
    cases hq : (members m.ls n)[k]? with
    | none => rw [hq] at e; cases e
    | some y =>
      rw [hq] at e
      have e : tx (pathT y) = tx (pathT (ws.take n)) := by simpa using e
      rw [tx_eq] at e
      obtain ⟨v, hv, rfl⟩ := members_ok g y (List.mem_of_getElem? hq)
      have := pathT_inj (fun w hw => (g.leaf hv).1 w (List.mem_of_mem_take hw)) (fun w hw => (g.leaf h).1 w (List.mem_of_mem_take hw)) e
      exact h2 k hk (by rw [hq, this]))
  simpa using this
theorem row_at (m : Dim) {l : Nat} (h : l ≤ m.dp) : atI ((List.range (m.dp + 1)).map fun l : Nat => D.tup ((members m.ls l).map leafD)) (l : Int) = some (D.tup ((members m.ls l).map leafD)) := atI_nat (by
  rw [List.getElem?_map, List.getElem?_range (by omega)]; rfl)
theorem row_last {m : Dim} (g : GoodL m.ls m.dp) : atI ((List.range (m.dp + 1)).map fun l : Nat => D.tup ((members m.ls l).map leafD)) (-1) = some (D.tup (m.ls.map leafD)) := by
  rw [List.range_succ, List.map_append]
  refine (atI_last _ _).trans ?_
  show some (D.tup ((members m.ls m.dp).map leafD)) = _
  rw [g.top]
theorem strsOf_leaf (l : List (List (List Nat))) : strsOf (l.map leafD) = some (l.map fun x => tx (pathT x)) := strsOf_mapf _ _
theorem init_eq {ms : List Dim} (g : GoodD ms) : F_Space___init [.own (.ins "Space" []), .val (.tup (ms.map Dim.d))] = .ok (.val .non) [.own (.ins "Space" (spaceF ms)), .val (.tup (ms.map Dim.d))] := by
  have hl : ms.length ≤ 16777216 := by have := g.hi; omega
  simp [F_Space___init, are_dimensions_eq g]
  rw [comp_map (en := Dim.d) (f := Dim.d)]
  rotate_left
  · intro m hm
    simp [Dim.d]
  simp [hl]
  rw [comp_map (en := Dim.d) (f := rowD)]
  rotate_left
  · intro m hm
    obtain ⟨_, gl⟩ := g.good m hm
    obtain ⟨ws, hws, a0⟩ := gl.first
    have hd : ws.length = m.dp := (gl.wd ws hws).1
    have hd3 : m.dp ≤ 16777216 := by have := gl.d3; omega
    have hd4 : m.dp + 1 < 4611686018427387904 := by omega
    have hd5 : (m.dp : Int) + 1 = ((m.dp + 1 : Nat) : Int) := rfl
    have hd6 : m.dp + 1 ≤ 16777216 := by have := gl.d3; omega
    simp [Dim.d, a0, gl.words hws, hd, hd3]
    rw [hd5]
    simp only [rng1_nat hd4]
    simp
    rw [comp_map (en := fun l : Nat => D.int l) (f := fun l => D.tup ((members m.ls l).map leafD))]
    rotate_left
    · intro l hl
      simp [level_members_eq gl.ok]
    simp [hd6, rowD]
  simp [hl]
  rw [comp_map (en := rowD) (f := innD)]
  rotate_left
  · intro m hm
    obtain ⟨_, gl⟩ := g.good m hm
    have hd4 : m.dp + 1 < 4611686018427387904 := by have := gl.d3; omega
    have hd6 : m.dp + 1 ≤ 16777216 := by have := gl.d3; omega
    have hm8 : m.ls.length ≤ 16777216 := by have := gl.hi; omega
    have hd5 : (m.dp : Int) + 1 = ((m.dp + 1 : Nat) : Int) := rfl
    simp [rowD, hd6]
    rw [hd5]
    simp only [rng1_nat hd4]
    simp
    rw [comp_map (en := fun l : Nat => D.int l) (f := fun l => D.tup (m.ls.map fun ws => D.int (grpOf m l ws : Nat)))]
    rotate_left
    · intro l hl
      have hl : l ≤ m.dp := by have := List.mem_range.mp hl; omega
      have rl := row_last gl
      have ra := row_at m hl
      simp [rl]
      rw [comp_map (en := leafD) (f := fun ws => D.int (grpOf m l ws : Nat))]
      rotate_left
      · intro ws hws
        have hb := beginning_eq (n := l) (gl.leaf hws).1 (by have := (gl.leaf hws).2; omega)
        have hp := pos_members (n := l) gl hws
        have hb : F_beginning [.val (leafD ws), .val (.int l)] = .ok (.val (dT (pathT (ws.take l)))) [.val (leafD ws), .val (.int l)] := hb
        simp [hb, ra, hp, strsOf_leaf]
      simp [hm8]
    simp [hd6, innD]
  simp [hl]
  have key := loop_pre (g := gmName 6) (b := mKill [6] (mStF "Space" "many" (mName 0) (mOp fMul (mFld "Space" "many" (mName 0)) (mCB fLen (mCons (mOp fIx (mName 6) (mNeg (mC (.int 1)))) mNil)))))
    (fun pre : List Dim => [some (.own (.ins "Space" [("dimensions", D.tup (ms.map Dim.d)), ("table", D.tup (ms.map rowD)), ("inner", D.tup (ms.map innD)), ("many", D.int (cellsN pre : Nat))])), some (.val (D.tup (ms.map Dim.d))), none, none, none, none, none]) rowD ms (by
      intro pre m post e
      have hm : m ∈ ms := by rw [e]; simp
      obtain ⟨_, gl⟩ := g.good m hm
      have rl := row_last gl
      have hml : m.ls.length ≤ 16777216 := by have := gl.hi; omega
      have hmul : -18446744073709551616 < (m.ls.length : Int) ∧ (m.ls.length : Int) < 18446744073709551616 := by have := gl.hi; omega
      simp [rowD, rl, hml, hmul, cells_snoc])
  rw [show ((cellsN [] : Nat) : Int) = 1 from rfl] at key
  rw [key]
  simp [spaceF]
end VL
set_option Elab.async false
set_option linter.all false
set_option maxRecDepth 100000
set_option maxHeartbeats 4000000
namespace VL
open PySem PySem.Spec PyProof.Rows L2
noncomputable def F_law_word : FN := fnM 2 7 [0, 1] (mSeq (mSet 2 (mC (.str "abcdefghijklmnopqrstuvwxyz")))
    (mSeq (mFor (mRng (mCons (mC (.int 3)) mNil)) (gmName 3) (mKill [3, 4, 5] (mSeq (mSet 4 (mC (.str "")))
    (mSeq (mFor (mRng (mCons (mOp fAdd (mC (.int 1)) (mOp fMul (mCall F_law_draw (mCons (mName 0) (mCons (mC (.int 8)) mNil))) (mCall F_law_draw (mCons (mName 0) (mCons (mC (.int 2)) mNil))))) mNil)) (gmName 5) (mKill [5] (mSet 4 (mOp fAdd (mName 4) (mOp fIx (mName 2) (mCall F_law_draw (mCons (mName 0) (mCons (mC (.int 26)) mNil))))))))
    (mIfS (mAndT (mTst (mOp (fIn true) (mName 4) (mName 1))) (mTst (mOp (fIn true) (mName 4) (mTup (mCons (mC (.str "sum")) (mCons (mC (.str "where")) (mCons (mC (.str "in")) (mCons (mC (.str "and")) mNil)))))))) (mRet [0, 1] (mName 4)) mNext)))))
    (mSeq (mFor (mIt (mName 2)) (gmName 6) (mKill [6] (mIfS (mTst (mOp (fIn true) (mName 6) (mName 1))) (mRet [0, 1] (mName 6)) mNext)))
    (mRet [0, 1] (mC (.str "zz"))))))
variable [CM]
theorem atI_lt {α : Type} {xs : List α} {r : Nat} (h : r < xs.length) : ∃ x, x ∈ xs ∧ atI xs (r : Int) = some x :=
  ⟨xs[r], List.getElem_mem h, atI_nat (List.getElem?_eq_getElem h)⟩
def isTaken (taken : List (List Nat)) (m : M) : Prop := m = .own (.lst (taken.map dT)) ∨ m = .val (.lst (taken.map dT))
theorem letter_word {w : List Nat} (h1 : 1 ≤ w.length) (h8 : w.length ≤ 8) (hl : ∀ n ∈ w, n ∈ lettersL) (hr : ¬ (w = wSum ∨ w = wWhere ∨ w = wIn ∨ w = wAnd)) : isWord w = true := by
  unfold isWord
  have h9 : (decide (w = wSum) || decide (w = wWhere) || decide (w = wIn) || decide (w = wAnd)) = false := by
    simp only [Bool.or_eq_false_iff, decide_eq_false_iff_not]
    exact ⟨⟨⟨fun e => hr (.inl e), fun e => hr (.inr (.inl e))⟩, fun e => hr (.inr (.inr (.inl e)))⟩, fun e => hr (.inr (.inr (.inr e)))⟩
  rw [h9]
  simp [h1, h8]
  exact fun n hn => hl n hn
def ltD : D := .str (Str.ofString "abcdefghijklmnopqrstuvwxyz")
theorem word_turn (ds : List Int) (k : Nat) {taken : List (List Nat)} {m : M} (hm : isTaken taken m) (i : Int) :
    (∃ k' : Nat, turnM (gmName 3) (mKill [3, 4, 5] (mSeq (mSet 4 (mC (.str "")))
    (mSeq (mFor (mRng (mCons (mOp fAdd (mC (.int 1)) (mOp fMul (mCall F_law_draw (mCons (mName 0) (mCons (mC (.int 8)) mNil))) (mCall F_law_draw (mCons (mName 0) (mCons (mC (.int 2)) mNil))))) mNil)) (gmName 5) (mKill [5] (mSet 4 (mOp fAdd (mName 4) (mOp fIx (mName 2) (mCall F_law_draw (mCons (mName 0) (mCons (mC (.int 26)) mNil))))))))
    (mIfS (mAndT (mTst (mOp (fIn true) (mName 4) (mName 1))) (mTst (mOp (fIn true) (mName 4) (mTup (mCons (mC (.str "sum")) (mCons (mC (.str "where")) (mCons (mC (.str "in")) (mCons (mC (.str "and")) mNil)))))))) (mRet [0, 1] (mName 4)) mNext)))) (.int i) [some (.own (boxD ds k)), some m, some (.val ltD), none, none, none, none] = .nx [some (.own (boxD ds k')), some m, some (.val ltD), none, none, none, none]) ∨
    ∃ (w : List Nat) (k' : Nat) (rest : Env), isWord w = true ∧ w ∉ taken ∧ turnM (gmName 3) (mKill [3, 4, 5] (mSeq (mSet 4 (mC (.str "")))
    (mSeq (mFor (mRng (mCons (mOp fAdd (mC (.int 1)) (mOp fMul (mCall F_law_draw (mCons (mName 0) (mCons (mC (.int 8)) mNil))) (mCall F_law_draw (mCons (mName 0) (mCons (mC (.int 2)) mNil))))) mNil)) (gmName 5) (mKill [5] (mSet 4 (mOp fAdd (mName 4) (mOp fIx (mName 2) (mCall F_law_draw (mCons (mName 0) (mCons (mC (.int 26)) mNil))))))))
    (mIfS (mAndT (mTst (mOp (fIn true) (mName 4) (mName 1))) (mTst (mOp (fIn true) (mName 4) (mTup (mCons (mC (.str "sum")) (mCons (mC (.str "where")) (mCons (mC (.str "in")) (mCons (mC (.str "and")) mNil)))))))) (mRet [0, 1] (mName 4)) mNext)))) (.int i) [some (.own (boxD ds k)), some m, some (.val ltD), none, none, none, none] = .rt (.val (dT w)) (some (.own (boxD ds k')) :: some m :: rest) := by
  obtain ⟨r1, hr1, er1⟩ := draw_ex ds k (m := 8) (by decide)
  obtain ⟨r2, hr2, er2⟩ := draw_ex ds (k + 1) (m := 2) (by decide)
  have hp : (r1 : Int) * r2 = ((r1 * r2 : Nat) : Int) := by simp
  have hpn : r1 * r2 ≤ 7 := by
    have : r1 ≤ 7 := by omega
    have : r2 ≤ 1 := by omega
    calc r1 * r2 ≤ 7 * 1 := Nat.mul_le_mul (by omega) (by omega)
      _ = 7 := rfl
  have hb : -18446744073709551616 < (r2 : Int) ∧ (r2 : Int) < 18446744073709551616 := by omega
  have hs : (1 : Int) + (r1 : Int) * r2 = ((1 + r1 * r2 : Nat) : Int) := by simp
  have hz : 1 + r1 * r2 < 4611686018427387904 := by omega
  simp [law_draw_eq, er1, er2, hb]
  rw [hs]
  simp only [rng1_nat hz]
  simp
  generalize hr : loopM _ _ _ _ = r
  have hlt : ltD = dT lettersL := by unfold ltD; rw [letters_tx]
  obtain ⟨e', rfl, l, k', rfl, hc, hl⟩ := loop_at hr (fun rest e => ∃ (l : List Nat) (k : Nat), e = [some (.own (boxD ds k)), some m, some (.val ltD), some (.val (.int i)), some (.val (dT l)), none, none] ∧ l.length + rest.length = 1 + r1 * r2 ∧ ∀ n ∈ l, n ∈ lettersL) ⟨[], k + 1 + 1, by rw [nil_tx], by simp, by simp⟩ (by
    rintro d rest e r' ⟨l, k, rfl, hc, hl⟩ hr'
    obtain ⟨r3, hr3, er3⟩ := draw_ex ds k (m := 26) (by decide)
    obtain ⟨x, hx, ex⟩ := atI_lt (xs := lettersL) (r := r3) (by have : lettersL.length = 26 := rfl; omega)
    have hz : lettersL.length ≤ 16777216 := by decide
    simp only [List.length_cons] at hc
    have hl2 : l.length + 1 ≤ 16777216 := by omega
    simp [law_draw_eq, er3, ex, hlt, hz, hl2] at hr'
    subst hr'
    exact ⟨_, .inl rfl, l ++ [x], k + 1, by rw [hlt], by simp; omega, fun n hn => by
      rcases List.mem_append.mp hn with h | h
      · exact hl n h
      · rw [List.mem_singleton.mp h]; exact hx⟩)
  clear hr
  simp only [List.length_nil, Nat.add_zero] at hc
  have hin := inSeq_tx l taken
  have hin2 : inSeq (dT l) [D.str (Str.ofString "sum"), D.str (Str.ofString "where"), D.str (Str.ofString "in"), D.str (Str.ofString "and")] = some (decide (l = wSum ∨ l = wWhere ∨ l = wIn ∨ l = wAnd)) := by
    rw [sum_tx, where_tx, in_tx, and_tx]
    simp [tx_beq, eq_comm]
  by_cases ht : l ∈ taken
  · left
    refine ⟨k', ?_⟩
    rcases hm with rfl | rfl <;> simp [hin, ht]
  · by_cases hq : l = wSum ∨ l = wWhere ∨ l = wIn ∨ l = wAnd
    · left
      refine ⟨k', ?_⟩
      rcases hm with rfl | rfl <;> simp [hin, ht, hin2, hq]
    · right
      rcases hm with rfl | rfl
      · exact ⟨l, letter_word (by omega) (by omega) hl hq, ht, k', _, by simp [hin, ht, hin2, hq]; rfl⟩
      · exact ⟨l, letter_word (by omega) (by omega) hl hq, ht, k', _, by simp [hin, ht, hin2, hq]; rfl⟩
theorem nodup_len {α : Type} [DecidableEq α] : ∀ (l t : List α), l.Nodup → (∀ x ∈ l, x ∈ t) → l.length ≤ t.length
  | [], t, _, _ => Nat.zero_le _
  | x :: l, t, hn, hs => by
    have hx : x ∈ t := hs x (by simp)
    have h1 := List.nodup_cons.mp hn
    have ih := nodup_len l (t.erase x) h1.2 fun y hy => by
      have : y ≠ x := fun e => h1.1 (e ▸ hy)
      exact (List.mem_erase_of_ne this).mpr (hs y (List.mem_cons_of_mem _ hy))
    have h2 := List.length_erase_of_mem hx
    have h3 : 0 < t.length := List.length_pos_of_mem hx
    simp only [List.length_cons]
    omega
theorem free_letter {taken : List (List Nat)} (h : taken.length ≤ 20) : ∃ n ∈ lettersL, [n] ∉ taken := by
  apply Classical.byContradiction
  intro hc
  have hs : ∀ x ∈ lettersL.map (fun n => [n]), x ∈ taken := by
    intro x hx
    obtain ⟨n, hn, rfl⟩ := List.mem_map.mp hx
    apply Classical.byContradiction
    intro hz
    exact hc ⟨n, hn, hz⟩
  have := nodup_len _ _ (by decide) hs
  rw [List.length_map, show lettersL.length = 26 from rfl] at this
  omega
theorem word_loop (ds : List Int) {taken : List (List Nat)} {m : M} (hm : isTaken taken m) : ∀ (is : List Int) (k : Nat),
    (∃ k' : Nat, loopM (gmName 3) (mKill [3, 4, 5] (mSeq (mSet 4 (mC (.str "")))
    (mSeq (mFor (mRng (mCons (mOp fAdd (mC (.int 1)) (mOp fMul (mCall F_law_draw (mCons (mName 0) (mCons (mC (.int 8)) mNil))) (mCall F_law_draw (mCons (mName 0) (mCons (mC (.int 2)) mNil))))) mNil)) (gmName 5) (mKill [5] (mSet 4 (mOp fAdd (mName 4) (mOp fIx (mName 2) (mCall F_law_draw (mCons (mName 0) (mCons (mC (.int 26)) mNil))))))))
    (mIfS (mAndT (mTst (mOp (fIn true) (mName 4) (mName 1))) (mTst (mOp (fIn true) (mName 4) (mTup (mCons (mC (.str "sum")) (mCons (mC (.str "where")) (mCons (mC (.str "in")) (mCons (mC (.str "and")) mNil)))))))) (mRet [0, 1] (mName 4)) mNext)))) (is.map D.int) [some (.own (boxD ds k)), some m, some (.val ltD), none, none, none, none] = .nx [some (.own (boxD ds k')), some m, some (.val ltD), none, none, none, none]) ∨
    ∃ (w : List Nat) (k' : Nat) (rest : Env), isWord w = true ∧ w ∉ taken ∧ loopM (gmName 3) (mKill [3, 4, 5] (mSeq (mSet 4 (mC (.str "")))
    (mSeq (mFor (mRng (mCons (mOp fAdd (mC (.int 1)) (mOp fMul (mCall F_law_draw (mCons (mName 0) (mCons (mC (.int 8)) mNil))) (mCall F_law_draw (mCons (mName 0) (mCons (mC (.int 2)) mNil))))) mNil)) (gmName 5) (mKill [5] (mSet 4 (mOp fAdd (mName 4) (mOp fIx (mName 2) (mCall F_law_draw (mCons (mName 0) (mCons (mC (.int 26)) mNil))))))))
    (mIfS (mAndT (mTst (mOp (fIn true) (mName 4) (mName 1))) (mTst (mOp (fIn true) (mName 4) (mTup (mCons (mC (.str "sum")) (mCons (mC (.str "where")) (mCons (mC (.str "in")) (mCons (mC (.str "and")) mNil)))))))) (mRet [0, 1] (mName 4)) mNext)))) (is.map D.int) [some (.own (boxD ds k)), some m, some (.val ltD), none, none, none, none] = .rt (.val (dT w)) (some (.own (boxD ds k')) :: some m :: rest)
  | [], k => .inl ⟨k, rfl⟩
  | i :: is, k => by
    rw [List.map_cons, loop_cons]
    rcases word_turn ds k hm i with ⟨k', e⟩ | ⟨w, k', rest, h1, h2, e⟩
    · rw [e]
      exact word_loop ds hm is k'
    · right
      exact ⟨w, k', rest, h1, h2, by rw [e]; rfl⟩
theorem single_word {n : Nat} (h : n ∈ lettersL) : isWord [n] = true := letter_word (by simp) (by simp) (by simpa using h) (by simp [wSum, wWhere, wIn, wAnd])
theorem mark_loop (ds : List Int) (k : Nat) {taken : List (List Nat)} {m : M} (hm : isTaken taken m) : ∀ (l : List Nat), (∀ n ∈ l, n ∈ lettersL) → (∃ n ∈ l, [n] ∉ taken) →
    ∃ (w : List Nat) (rest : Env), isWord w = true ∧ w ∉ taken ∧ loopM (gmName 6) (mKill [6] (mIfS (mTst (mOp (fIn true) (mName 6) (mName 1))) (mRet [0, 1] (mName 6)) mNext)) (l.map fun n => dT [n]) [some (.own (boxD ds k)), some m, some (.val ltD), none, none, none, none] = .rt (.val (dT w)) (some (.own (boxD ds k)) :: some m :: rest)
  | [], _, h => by obtain ⟨n, hn, _⟩ := h; cases hn
  | n :: l, hl, h => by
    rw [List.map_cons, loop_cons]
    have hin := inSeq_tx [n] taken
    by_cases ht : [n] ∈ taken
    · have e : turnM (gmName 6) (mKill [6] (mIfS (mTst (mOp (fIn true) (mName 6) (mName 1))) (mRet [0, 1] (mName 6)) mNext)) (dT [n]) [some (.own (boxD ds k)), some m, some (.val ltD), none, none, none, none] = .nx [some (.own (boxD ds k)), some m, some (.val ltD), none, none, none, none] := by
        rcases hm with rfl | rfl <;> simp [hin, ht]
      rw [e]
      refine mark_loop ds k hm l (fun x hx => hl x (List.mem_cons_of_mem _ hx)) ?_
      obtain ⟨x, hx, hz⟩ := h
      rcases List.mem_cons.mp hx with rfl | hx
      · exact absurd ht hz
      · exact ⟨x, hx, hz⟩
    · have e : ∃ rest, turnM (gmName 6) (mKill [6] (mIfS (mTst (mOp (fIn true) (mName 6) (mName 1))) (mRet [0, 1] (mName 6)) mNext)) (dT [n]) [some (.own (boxD ds k)), some m, some (.val ltD), none, none, none, none] = .rt (.val (dT [n])) (some (.own (boxD ds k)) :: some m :: rest) := by
        rcases hm with rfl | rfl
        · exact ⟨_, by simp [hin, ht]; rfl⟩
        · exact ⟨_, by simp [hin, ht]; rfl⟩
      obtain ⟨rest, e⟩ := e
      exact ⟨[n], rest, single_word (hl n (by simp)), ht, by rw [e]; rfl⟩
theorem law_word_ex (ds : List Int) (k : Nat) {taken : List (List Nat)} (ht : taken.length ≤ 20) {m : M} (hm : isTaken taken m) : ∃ (w : List Nat) (k' : Nat), isWord w = true ∧ w ∉ taken ∧ F_law_word [.own (boxD ds k), m] = .ok (.val (dT w)) [.own (boxD ds k'), m] := by
  have e3 : List.map (fun k : Nat => D.int (k : Int)) (List.range 3) = List.map D.int [0, 1, 2] := rfl
  have hlen : lettersL.length ≤ 16777216 := by decide
  have hlt : ltD = dT lettersL := by unfold ltD; rw [letters_tx]
  have h0 := word_loop ds hm [0, 1, 2] k
  rw [← e3] at h0
  rcases h0 with ⟨k', e⟩ | ⟨w, k', rest, h1, h2, e⟩
  · obtain ⟨w, rest, h1, h2, e2⟩ := mark_loop ds k' hm lettersL (fun n h => h) (free_letter ht)
    refine ⟨w, k', h1, h2, ?_⟩
    unfold ltD at e e2
    rcases hm with rfl | rfl
    · simp [F_law_word]
      rw [e]
      simp [letters_tx, hlen]
      rw [letters_tx] at e2
      rw [e2]
      simp
    · simp [F_law_word]
      rw [e]
      simp [letters_tx, hlen]
      rw [letters_tx] at e2
      rw [e2]
      simp
  · refine ⟨w, k', h1, h2, ?_⟩
    unfold ltD at e
    rcases hm with rfl | rfl
    · simp [F_law_word]
      rw [e]
      simp
    · simp [F_law_word]
      rw [e]
      simp
end VL
set_option Elab.async false
set_option linter.all false
set_option maxRecDepth 100000
set_option maxHeartbeats 4000000
namespace VL
open PySem PySem.Spec PyProof.Rows L2
noncomputable def F_law_plain_leaves : FN := fnM 2 7 [] (mSeq (mSet 2 (mC (.str "abcdefgh")))
    (mSeq (mSet 3 (mTup (mCons (mC (.str "")) (mCons (mC (.str "m/")) (mCons (mC (.str "m/p/")) mNil)))))
    (mSeq (mSet 4 (mTup (mCons (mC (.str "")) (mCons (mC (.str "n/")) (mCons (mC (.str "n/q/")) mNil)))))
    (mSeq (mOwn 5 (mLst mNil))
    (mSeq (mFor (mRng (mCons (mName 1) mNil)) (gmName 6) (mKill [6] (mIfS (mTst (mOp fLt (mOp fMul (mC (.int 2)) (mName 6)) (mName 1))) (mExpr (mApp (mName 5) (mOp fAdd (mOp fIx (mName 3) (mOp fSub (mName 0) (mC (.int 1)))) (mOp fIx (mName 2) (mName 6))))) (mExpr (mApp (mName 5) (mOp fAdd (mOp fIx (mName 4) (mOp fSub (mName 0) (mC (.int 1)))) (mOp fIx (mName 2) (mName 6))))))))
    (mRet [] (mCB fTuple (mCons (mName 5) mNil))))))))
variable [CM]
def upB : List (List (List Nat)) → Bool
  | a :: b :: r => strLt (tx (pathT a)) (tx (pathT b)) && upB (b :: r)
  | _ => true
def goodB (ls : List (List (List Nat))) (d : Nat) : Bool := decide (2 ≤ ls.length) && decide (ls.length ≤ 8) && decide (1 ≤ d) && decide (d ≤ 3) && (ls.all fun ws => decide (ws.length = d) && ws.all isWord) && upB ls
theorem upB_at : ∀ {ls : List (List (List Nat))}, upB ls = true → ∀ i a b, ls[i]? = some a → ls[i + 1]? = some b → strLt (tx (pathT a)) (tx (pathT b)) = true
  | [], _, i, a, b, h, _ => by simp at h
  | [x], _, i, a, b, _, h => by simp at h
  | x :: y :: r, h, 0, a, b, h1, h2 => by
    have h : (strLt (tx (pathT x)) (tx (pathT y)) && upB (y :: r)) = true := h
    simp only [Bool.and_eq_true] at h
    have e1 : x = a := by simpa using h1
    have e2 : y = b := by simpa using h2
    rw [← e1, ← e2]; exact h.1
  | x :: y :: r, h, i + 1, a, b, h1, h2 => by
    have h : (strLt (tx (pathT x)) (tx (pathT y)) && upB (y :: r)) = true := h
    simp only [Bool.and_eq_true] at h
    exact upB_at h.2 i a b (by simpa using h1) (by simpa using h2)
theorem goodB_of {ls : List (List (List Nat))} {d : Nat} (h : goodB ls d = true) : GoodL ls d := by
  unfold goodB at h
  simp only [Bool.and_eq_true, decide_eq_true_eq, List.all_eq_true] at h
  obtain ⟨⟨⟨⟨⟨h1, h2⟩, h3⟩, h4⟩, h5⟩, h6⟩ := h
  exact ⟨h1, h2, h3, h4, h5, upB_at h6⟩
def plainL (d n : Nat) : List (List (List Nat)) := (List.range n).map fun k => ((if 2 * k < n then [[109], [112]] else [[110], [113]]).take (d - 1)) ++ [[97 + k]]
theorem plain_good : ∀ d, d < 4 → ∀ n, n < 9 → 1 ≤ d → 2 ≤ n → goodB (plainL d n) d = true := by decide +kernel
theorem eight_tx : Str.ofString "abcdefgh" = tx [97, 98, 99, 100, 101, 102, 103, 104] := by decide +kernel
theorem plain_leaves_eq {d n : Nat} (hd : 1 ≤ d ∧ d ≤ 3) (hn : 2 ≤ n ∧ n ≤ 8) : F_law_plain_leaves [.val (.int d), .val (.int n)] = .ok (.val (.tup ((plainL d n).map leafD))) [.val (.int d), .val (.int n)] := by
  have hn4 : n < 4611686018427387904 := by omega
  have e1 : Str.ofString "m/" = tx [109, 47] := by decide +kernel
  have e2 : Str.ofString "m/p/" = tx [109, 47, 112, 47] := by decide +kernel
  have e3 : Str.ofString "n/" = tx [110, 47] := by decide +kernel
  have e4 : Str.ofString "n/q/" = tx [110, 47, 113, 47] := by decide +kernel
  simp [F_law_plain_leaves, hn4]
  have key := loop_pre (g := gmName 6) (b := mKill [6] (mIfS (mTst (mOp fLt (mOp fMul (mC (.int 2)) (mName 6)) (mName 1))) (mExpr (mApp (mName 5) (mOp fAdd (mOp fIx (mName 3) (mOp fSub (mName 0) (mC (.int 1)))) (mOp fIx (mName 2) (mName 6))))) (mExpr (mApp (mName 5) (mOp fAdd (mOp fIx (mName 4) (mOp fSub (mName 0) (mC (.int 1)))) (mOp fIx (mName 2) (mName 6)))))))
    (fun pre : List Nat => [some (.val (.int d)), some (.val (.int n)), some (.val (.str (Str.ofString "abcdefgh"))), some (.val (.tup [.str (Str.ofString ""), .str (Str.ofString "m/"), .str (Str.ofString "m/p/")])), some (.val (.tup [.str (Str.ofString ""), .str (Str.ofString "n/"), .str (Str.ofString "n/q/")])), some (.own (.lst (pre.map fun k => leafD (((if 2 * k < n then [[109], [112]] else [[110], [113]]).take (d - 1)) ++ [[97 + k]])))), none]) (fun k : Nat => D.int k) (List.range n) (by
      intro pre k post e
      have hk : k < n := by
        have : k ∈ List.range n := by rw [e]; simp
        exact List.mem_range.mp this
      have hl : pre.length < 16777216 := by
        have := congrArg List.length e
        simp only [List.length_range, List.length_append, List.length_cons] at this
        omega
      have ak : atI [97, 98, 99, 100, 101, 102, 103, 104] (k : Int) = some (97 + k) := atI_nat (by
        have : k < 8 := by omega
        have h8 : ∀ k, k < 8 → ([97, 98, 99, 100, 101, 102, 103, 104] : List Nat)[k]? = some (97 + k) := by decide
        exact h8 k this)
      have hz : ([97, 98, 99, 100, 101, 102, 103, 104] : List Nat).length ≤ 16777216 := by decide
      have h2 : ((2 : Int) * k < n) = (2 * k < n) := by apply propext; omega
      have a0 : ∀ a b c : D, atI [a, b, c] ((0 : Nat) : Int) = some a := fun a b c => atI_nat (j := 0) rfl
      have a1 : ∀ a b c : D, atI [a, b, c] ((1 : Nat) : Int) = some b := fun a b c => atI_nat (j := 1) rfl
      have a2 : ∀ a b c : D, atI [a, b, c] ((2 : Nat) : Int) = some c := fun a b c => atI_nat (j := 2) rfl
      obtain rfl | rfl | rfl : d = 1 ∨ d = 2 ∨ d = 3 := by omega
      · by_cases hc : 2 * k < n
        · simp [h2, hc, hl, eight_tx, nil_tx, e1, e2, e3, e4, ak, leafD, pathT, TL.joinL]
        · simp [h2, hc, hl, eight_tx, nil_tx, e1, e2, e3, e4, ak, leafD, pathT, TL.joinL]
      · by_cases hc : 2 * k < n
        · simp [h2, hc, hl, eight_tx, nil_tx, e1, e2, e3, e4, ak, leafD, pathT, TL.joinL]
        · simp [h2, hc, hl, eight_tx, nil_tx, e1, e2, e3, e4, ak, leafD, pathT, TL.joinL]
      · by_cases hc : 2 * k < n
        · simp [h2, hc, hl, eight_tx, nil_tx, e1, e2, e3, e4, ak, leafD, pathT, TL.joinL]
        · simp [h2, hc, hl, eight_tx, nil_tx, e1, e2, e3, e4, ak, leafD, pathT, TL.joinL])
  rw [List.map_nil] at key
  rw [key]
  have hz : n ≤ 16777216 := by omega
  simp [hz, plainL]
end VL
set_option Elab.async false
set_option linter.all false
set_option maxRecDepth 100000
set_option maxHeartbeats 4000000
namespace VL
open PySem PySem.Spec PyProof.Rows L2
noncomputable def F_law_leaves : FN := fnM 3 12 [0] (mSeq (mOwn 3 (mLst mNil))
    (mSeq (mFor (mRng (mCons (mName 1) mNil)) (gmName 4) (mKill [4, 5, 6] (mSeq (mOwn 5 (mLst mNil))
    (mSeq (mFor (mRng (mCons (mName 2) mNil)) (gmName 6) (mKill [6] (mIfS (mOrT (mTst (mOp (fEq false) (mName 4) (mOp fSub (mName 1) (mC (.int 1))))) (mTst (mOp fLt (mName 6) (mC (.int 2))))) (mExpr (mApp (mName 5) (mCall F_law_word (mCons (mName 0) (mCons (mName 5) mNil))))) mNext)))
    (mExpr (mApp (mName 3) (mName 5)))))))
    (mSeq (mOwn 7 (mLst mNil))
    (mSeq (mFor (mRng (mCons (mOp fMul (mC (.int 2)) (mName 2)) mNil)) (gmName 8) (mKill [8, 9] (mSeq (mSet 9 (mSM fJoin (mC (.str "/")) (mLc [0] (mIt (mName 3)) (gmName 10) mYes (mOp fIx (mName 10) (mCall F_law_draw (mCons (mName 0) (mCons (mCB fLen (mCons (mName 10) mNil)) mNil)))) [10])))
    (mIfS (mAndT (mTst (mOp (fIn true) (mName 9) (mName 7))) (mTst (mOp fLt (mCB fLen (mCons (mName 7) mNil)) (mName 2)))) (mExpr (mApp (mName 7) (mName 9))) mNext))))
    (mSeq (mFor (mIt (mOp fIx (mName 3) (mNeg (mC (.int 1))))) (gmName 11) (mKill [9, 11] (mSeq (mSet 9 (mSM fJoin (mC (.str "/")) (mOp fAdd (mLc [0] (mIt (mSl (mName 3) mNoPart (mPart (mNeg (mC (.int 1)))))) (gmName 10) mYes (mOp fIx (mName 10) (mC (.int 0))) [10]) (mLst (mCons (mName 11) mNil)))))
    (mIfS (mAndT (mTst (mOp (fIn true) (mName 9) (mName 7))) (mTst (mOp fLt (mCB fLen (mCons (mName 7) mNil)) (mC (.int 2))))) (mExpr (mApp (mName 7) (mName 9))) mNext))))
    (mRet [0] (mCB fTuple (mCons (mCB fSorted (mCons (mName 7) mNil)) mNil))))))))
variable [CM]
structure OkPool (p : List (List Nat)) : Prop where
  wd : ∀ w ∈ p, isWord w = true
  nd : p.Nodup
  lo : 2 ≤ p.length
  hi : p.length ≤ 8
theorem pool_ex (ds : List Int) (k dp mn lv : Nat) (h2 : 2 ≤ mn) (h8 : mn ≤ 8) (m3 : Option M) (rest : Env) :
    ∃ (p : List (List Nat)) (k' : Nat), OkPool p ∧ loopM (gmName 6) (mKill [6] (mIfS (mOrT (mTst (mOp (fEq false) (mName 4) (mOp fSub (mName 1) (mC (.int 1))))) (mTst (mOp fLt (mName 6) (mC (.int 2))))) (mExpr (mApp (mName 5) (mCall F_law_word (mCons (mName 0) (mCons (mName 5) mNil))))) mNext)) ((List.range mn).map fun k : Nat => D.int k)
      (some (.own (boxD ds k)) :: some (.val (.int dp)) :: some (.val (.int mn)) :: m3 :: some (.val (.int lv)) :: some (.own (.lst [])) :: none :: rest) = .nx (some (.own (boxD ds k')) :: some (.val (.int dp)) :: some (.val (.int mn)) :: m3 :: some (.val (.int lv)) :: some (.own (.lst (p.map dT))) :: none :: rest) := by
  obtain ⟨e', he, p, k', rfl, w1, w2, w3, w4⟩ := loop_ix (g := gmName 6) (b := mKill [6] (mIfS (mOrT (mTst (mOp (fEq false) (mName 4) (mOp fSub (mName 1) (mC (.int 1))))) (mTst (mOp fLt (mName 6) (mC (.int 2))))) (mExpr (mApp (mName 5) (mCall F_law_word (mCons (mName 0) (mCons (mName 5) mNil))))) mNext)) (ds := (List.range mn).map fun k : Nat => D.int k)
    (fun i e => ∃ (p : List (List Nat)) (k : Nat), e = some (.own (boxD ds k)) :: some (.val (.int dp)) :: some (.val (.int mn)) :: m3 :: some (.val (.int lv)) :: some (.own (.lst (p.map dT))) :: none :: rest ∧ (∀ w ∈ p, isWord w = true) ∧ p.Nodup ∧ p.length ≤ i ∧ min 2 i ≤ p.length)
    (by
      rintro i d e hd ⟨p, k, rfl, w1, w2, w3, w4⟩
      have hi : i < mn := by
        have := (List.getElem?_eq_some_iff.mp hd).1
        simpa using this
      have hd : d = .int (i : Nat) := by
        rw [List.getElem?_map, List.getElem?_range hi] at hd
        exact (Option.some.inj hd).symm
      subst hd
      obtain ⟨w, k', g1, g2, g3⟩ := law_word_ex ds k (taken := p) (by omega) (.inl rfl)
      have hl : p.length < 16777216 := by omega
      by_cases hc : (lv : Int) = (dp : Int) - 1
      · have hcT : ((lv : Int) = (dp : Int) - 1) = True := eq_true hc
        refine ⟨_, .inl (by simp [hcT, g3, hl]; rfl), p ++ [w], k', by simp, ?_, ?_, by simp; omega, by simp; omega⟩
        · intro v hv
          rcases List.mem_append.mp hv with h | h
          · exact w1 v h
          · rw [List.mem_singleton.mp h]; exact g1
        · exact List.nodup_append.mpr ⟨w2, by simp, fun a ha b hb e => g2 (by rw [List.mem_singleton] at hb; subst hb; subst e; exact ha)⟩
      · by_cases hi2 : i < 2
        · refine ⟨_, .inl (by simp [hc, hi2, g3, hl]; rfl), p ++ [w], k', by simp, ?_, ?_, by simp; omega, by simp; omega⟩
          · intro v hv
            rcases List.mem_append.mp hv with h | h
            · exact w1 v h
            · rw [List.mem_singleton.mp h]; exact g1
          · exact List.nodup_append.mpr ⟨w2, by simp, fun a ha b hb e => g2 (by rw [List.mem_singleton] at hb; subst hb; subst e; exact ha)⟩
        · exact ⟨_, .inl (by simp [hc, hi2]), p, k, rfl, w1, w2, by omega, by omega⟩)
    _ ⟨[], k, rfl, (by intro w hw; cases hw), List.nodup_nil, Nat.le_refl _, (by simp)⟩
  rw [List.length_map, List.length_range] at w3 w4
  exact ⟨p, k', ⟨w1, w2, by omega, by omega⟩, he⟩
def poolD (p : List (List Nat)) : D := .lst (p.map dT)
theorem pools_ex (ds : List Int) (k dp mn : Nat) (hdp : dp ≤ 3) (h2 : 2 ≤ mn) (h8 : mn ≤ 8) :
    ∃ (ps : List (List (List Nat))) (k' : Nat), ps.length = dp ∧ (∀ p ∈ ps, OkPool p) ∧ loopM (gmName 4) (mKill [4, 5, 6] (mSeq (mOwn 5 (mLst mNil))
    (mSeq (mFor (mRng (mCons (mName 2) mNil)) (gmName 6) (mKill [6] (mIfS (mOrT (mTst (mOp (fEq false) (mName 4) (mOp fSub (mName 1) (mC (.int 1))))) (mTst (mOp fLt (mName 6) (mC (.int 2))))) (mExpr (mApp (mName 5) (mCall F_law_word (mCons (mName 0) (mCons (mName 5) mNil))))) mNext)))
    (mExpr (mApp (mName 3) (mName 5)))))) ((List.range dp).map fun k : Nat => D.int k)
      [some (.own (boxD ds k)), some (.val (.int dp)), some (.val (.int mn)), some (.own (.lst [])), none, none, none, none, none, none, none, none] = .nx [some (.own (boxD ds k')), some (.val (.int dp)), some (.val (.int mn)), some (.own (.lst (ps.map poolD))), none, none, none, none, none, none, none, none] := by
  obtain ⟨e', he, ps, k', rfl, w1, w2⟩ := loop_ix (g := gmName 4) (b := (mKill [4, 5, 6] (mSeq (mOwn 5 (mLst mNil))
    (mSeq (mFor (mRng (mCons (mName 2) mNil)) (gmName 6) (mKill [6] (mIfS (mOrT (mTst (mOp (fEq false) (mName 4) (mOp fSub (mName 1) (mC (.int 1))))) (mTst (mOp fLt (mName 6) (mC (.int 2))))) (mExpr (mApp (mName 5) (mCall F_law_word (mCons (mName 0) (mCons (mName 5) mNil))))) mNext)))
    (mExpr (mApp (mName 3) (mName 5))))))) (ds := (List.range dp).map fun k : Nat => D.int k)
    (fun i e => ∃ (ps : List (List (List Nat))) (k : Nat), e = [some (.own (boxD ds k)), some (.val (.int dp)), some (.val (.int mn)), some (.own (.lst (ps.map poolD))), none, none, none, none, none, none, none, none] ∧ ps.length = i ∧ ∀ p ∈ ps, OkPool p)
    (by
      rintro i d e hd ⟨ps, k, rfl, w1, w2⟩
      have hi : i < dp := by
        have := (List.getElem?_eq_some_iff.mp hd).1
        simpa using this
      have hd : d = .int (i : Nat) := by
        rw [List.getElem?_map, List.getElem?_range hi] at hd
        exact (Option.some.inj hd).symm
      subst hd
      obtain ⟨p, k', g1, g2⟩ := pool_ex ds k dp mn i h2 h8 (some (.own (.lst (ps.map poolD)))) [none, none, none, none, none]
      have hm : mn < 4611686018427387904 := by omega
      have hl : ps.length < 16777216 := by omega
      refine ⟨_, .inl ?_, ps ++ [p], k', rfl, by simp; omega, fun q hq => ?_⟩
      · simp [hm]
        rw [g2]
        simp [hl, poolD]
      · rcases List.mem_append.mp hq with h | h
        · exact w2 q h
        · rw [List.mem_singleton.mp h]; exact g1)
    _ ⟨[], k, rfl, rfl, (by intro p hp; cases hp)⟩
  rw [List.length_map, List.length_range] at w1
  exact ⟨ps, k', w1, w2, he⟩
theorem pick_ex (ds : List Int) (dp mn : Nat) (m3 m7 m8 : Option M) : ∀ (ps : List (List (List Nat))) (k : Nat), (∀ p ∈ ps, OkPool p) →
    ∃ (ws : List (List Nat)) (k' : Nat), ws.length = ps.length ∧ (∀ w ∈ ws, isWord w = true) ∧ compM (gmName 10) mYes (mOp fIx (mName 10) (mCall F_law_draw (mCons (mName 0) (mCons (mCB fLen (mCons (mName 10) mNil)) mNil)))) [10] (ps.map poolD) [some (.own (boxD ds k)), some (.val (.int dp)), some (.val (.int mn)), m3, none, none, none, m7, m8, none, none, none] = .ok (ws.map dT) [some (.own (boxD ds k')), some (.val (.int dp)), some (.val (.int mn)), m3, none, none, none, m7, m8, none, none, none]
  | [], k, _ => ⟨[], k, rfl, (by intro w hw; cases hw), rfl⟩
  | p :: ps, k, h => by
    have hp := h p (by simp)
    obtain ⟨r, hr, er⟩ := draw_ex ds k (m := (p.length : Int)) (by have := hp.lo; omega)
    have hr2 : r < p.length := by omega
    have ax : atI (p.map dT) (r : Int) = some (dT p[r]) := atI_nat (by rw [List.getElem?_map, List.getElem?_eq_getElem hr2]; rfl)
    have hz : ¬ ((p.length : Int) = 0) := by have := hp.lo; omega
    have hz2 : p ≠ [] := by have := hp.lo; intro e; rw [e] at this; simp at this
    have hl : p.length ≤ 16777216 := by have := hp.hi; omega
    obtain ⟨ws, k', h1, h2, h3⟩ := pick_ex ds dp mn m3 m7 m8 ps (k + 1) fun q hq => h q (List.mem_cons_of_mem _ hq)
    refine ⟨p[r] :: ws, k', by simp [h1], fun w hw => ?_, ?_⟩
    · rcases List.mem_cons.mp hw with rfl | hw
      · exact hp.wd _ (List.getElem_mem hr2)
      · exact h2 w hw
    · have hd := law_draw_eq (ds := ds) (k := k) (m := (p.length : Int)) hz
      rw [List.map_cons, comp_cons]
      have ht : turnC (gmName 10) mYes (mOp fIx (mName 10) (mCall F_law_draw (mCons (mName 0) (mCons (mCB fLen (mCons (mName 10) mNil)) mNil)))) [10] (poolD p) [some (.own (boxD ds k)), some (.val (.int dp)), some (.val (.int mn)), m3, none, none, none, m7, m8, none, none, none] = .ok (some (dT p[r])) [some (.own (boxD ds (k + 1))), some (.val (.int dp)), some (.val (.int mn)), m3, none, none, none, m7, m8, none, none, none] := by
        simp [poolD, hl, hd, er, ax]
      rw [ht]
      simp [h3]
structure OkPaths (l : List (List (List Nat))) (d : Nat) : Prop where
  wd : ∀ ws ∈ l, ws.length = d ∧ ∀ w ∈ ws, isWord w = true
  nd : l.Nodup
theorem OkPaths.clean {l : List (List (List Nat))} {d : Nat} (o : OkPaths l d) : ∀ ws ∈ l, ∀ w ∈ ws, clean w := fun ws h w hw => (isWord_clean ((o.wd ws h).2 w hw)).1
theorem in_paths {l : List (List (List Nat))} {d : Nat} (o : OkPaths l d) {x : List (List Nat)} (hx : ∀ w ∈ x, isWord w = true) : inSeq (dT (pathT x)) (l.map leafD) = some (decide (x ∈ l)) := by
  have h := inSeq_tx (pathT x) (l.map pathT)
  rw [List.map_map] at h
  rw [show l.map leafD = List.map (dT ∘ pathT) l from rfl, h]
  congr 1
  refine decide_eq_decide.mpr ⟨fun h => ?_, fun h => List.mem_map.mpr ⟨x, h, rfl⟩⟩
  obtain ⟨y, hy, e⟩ := List.mem_map.mp h
  have := pathT_inj (o.clean y hy) (fun w hw => (isWord_clean (hx w hw)).1) e
  rw [← this]; exact hy
theorem OkPaths.snoc {l : List (List (List Nat))} {d : Nat} (o : OkPaths l d) {x : List (List Nat)} (hl : x.length = d) (hx : ∀ w ∈ x, isWord w = true) (hn : x ∉ l) : OkPaths (l ++ [x]) d := by
  refine ⟨fun ws h => ?_, List.nodup_append.mpr ⟨o.nd, by simp, fun a ha b hb e => hn (by rw [List.mem_singleton] at hb; subst hb; subst e; exact ha)⟩⟩
  rcases List.mem_append.mp h with h | h
  · exact o.wd ws h
  · rw [List.mem_singleton.mp h]; exact ⟨hl, hx⟩
theorem join_path {ws : List (List Nat)} (h : szP ws ≤ 1000000) : joinS (tx [47]) (ws.map tx) = some (.val (.str (tx (pathT ws)))) := by
  have h3 : ((ws.map tx).map (·.length)).sum + (ws.map tx).length * (tx [47]).length ≤ 16777216 := by
    have : (ws.map tx).map (·.length) = ws.map List.length := by rw [List.map_map]; exact List.map_congr_left fun x _ => tx_len x
    rw [this]
    simp only [tx_len, List.length_map, List.length_singleton, Nat.mul_one]
    unfold szP at h; omega
  rw [joinS_of h3]
  have j : Txt.join (tx [47]) (ws.map tx) = tx (pathT ws) := SX.join_S [47] ws
  rw [j]
theorem word_sz {ws : List (List Nat)} (h : ∀ w ∈ ws, isWord w = true) (hl : ws.length ≤ 1000) : szP ws ≤ 1000000 := by
  have := szP_le (n := 8) (ws := ws) fun w hw => (isWord_clean (h w hw)).2
  omega
theorem paths_ex (ds : List Int) (k dp mn n : Nat) (hmn : mn ≤ 8) {ps : List (List (List Nat))} {q0 : M} (hq0 : q0 = .own (.lst (ps.map poolD)) ∨ q0 = .val (.lst (ps.map poolD))) (hps : ∀ p ∈ ps, OkPool p) (hpl : ps.length ≤ 3) :
    ∃ (l : List (List (List Nat))) (k' : Nat) (q : M), (q = .own (.lst (ps.map poolD)) ∨ q = .val (.lst (ps.map poolD))) ∧ OkPaths l ps.length ∧ l.length ≤ mn ∧ loopM (gmName 8) (mKill [8, 9] (mSeq (mSet 9 (mSM fJoin (mC (.str "/")) (mLc [0] (mIt (mName 3)) (gmName 10) mYes (mOp fIx (mName 10) (mCall F_law_draw (mCons (mName 0) (mCons (mCB fLen (mCons (mName 10) mNil)) mNil)))) [10])))
    (mIfS (mAndT (mTst (mOp (fIn true) (mName 9) (mName 7))) (mTst (mOp fLt (mCB fLen (mCons (mName 7) mNil)) (mName 2)))) (mExpr (mApp (mName 7) (mName 9))) mNext))) ((List.range n).map fun k : Nat => D.int k)
      [some (.own (boxD ds k)), some (.val (.int dp)), some (.val (.int mn)), some q0, none, none, none, some (.own (.lst [])), none, none, none, none] = .nx [some (.own (boxD ds k')), some (.val (.int dp)), some (.val (.int mn)), some q, none, none, none, some (.own (.lst (l.map leafD))), none, none, none, none] := by
  obtain ⟨e', he, l, k', q, rfl, hq, w1, w2⟩ := loop_ix (g := gmName 8) (b := (mKill [8, 9] (mSeq (mSet 9 (mSM fJoin (mC (.str "/")) (mLc [0] (mIt (mName 3)) (gmName 10) mYes (mOp fIx (mName 10) (mCall F_law_draw (mCons (mName 0) (mCons (mCB fLen (mCons (mName 10) mNil)) mNil)))) [10])))
    (mIfS (mAndT (mTst (mOp (fIn true) (mName 9) (mName 7))) (mTst (mOp fLt (mCB fLen (mCons (mName 7) mNil)) (mName 2)))) (mExpr (mApp (mName 7) (mName 9))) mNext)))) (ds := (List.range n).map fun k : Nat => D.int k)
    (fun i e => ∃ (l : List (List (List Nat))) (k : Nat) (q : M), e = [some (.own (boxD ds k)), some (.val (.int dp)), some (.val (.int mn)), some q, none, none, none, some (.own (.lst (l.map leafD))), none, none, none, none] ∧ (q = .own (.lst (ps.map poolD)) ∨ q = .val (.lst (ps.map poolD))) ∧ OkPaths l ps.length ∧ l.length ≤ mn)
    (by
      rintro i d e hd ⟨l, k, q, rfl, hq, w1, w2⟩
      have hi : i < n := by
        have := (List.getElem?_eq_some_iff.mp hd).1
        simpa using this
      have hd : d = .int (i : Nat) := by
        rw [List.getElem?_map, List.getElem?_range hi] at hd
        exact (Option.some.inj hd).symm
      subst hd
      obtain ⟨ws, k', g1, g2, g3⟩ := pick_ex ds dp mn (some (.val (.lst (ps.map poolD)))) (some (.own (.lst (l.map leafD)))) (some (.val (.int (i : Nat)))) ps k hps
      have hj := join_path (word_sz g2 (by omega))
      have hin := in_paths w1 g2
      have hl : l.length < 16777216 := by omega
      have hl2 : l.length ≤ 16777216 := by omega
      have hw : ws.length ≤ 16777216 := by omega
      by_cases h1 : ws ∈ l
      · refine ⟨_, .inl ?_, l, k', _, rfl, .inr rfl, w1, w2⟩
        rcases hq with rfl | rfl <;> simp <;> rw [g3] <;>
        simp [slash_tx, hj, hin, h1, hw]
      · by_cases h2 : l.length < mn
        · refine ⟨_, .inl ?_, l ++ [ws], k', _, rfl, .inr rfl, w1.snoc g1 g2 h1, by simp; omega⟩
          rcases hq with rfl | rfl <;> simp <;> rw [g3] <;>
          simp [slash_tx, hj, hin, h1, hw, hl, hl2, h2, leafD]
        · refine ⟨_, .inl ?_, l, k', _, rfl, .inr rfl, w1, w2⟩
          rcases hq with rfl | rfl <;> simp <;> rw [g3] <;>
          simp [slash_tx, hj, hin, h1, hw, hl, hl2, h2])
    _ ⟨[], k, q0, rfl, hq0, ⟨(by intro w hw; cases hw), List.nodup_nil⟩, Nat.zero_le _⟩
  exact ⟨l, k', q, hq, w1, w2, he⟩
theorem cutD_init (xs : List D) (x : D) : cutD (xs ++ [x]) none (some (-1)) = xs := by
  unfold cutD HT.sIx
  simp
  have : (-1 + ((xs.length : Int) + 1)).toNat = xs.length := by omega
  rw [this]
  simp
theorem nodup01 {α : Type} : ∀ {l : List α} {a b : α}, l.Nodup → l[0]? = some a → l[1]? = some b → a ≠ b
  | [], _, _, _, h, _ => by simp at h
  | [_], _, _, _, _, h => by simp at h
  | x :: y :: r, a, b, hn, h1, h2 => by
    have e1 : x = a := by simpa using h1
    have e2 : y = b := by simpa using h2
    rw [← e1, ← e2]
    intro e
    have := (List.nodup_cons.mp hn).1
    exact this (by rw [e]; simp)
def hd1 (p : List (List Nat)) : List Nat := p.headD []
def heads (ps : List (List (List Nat))) : List (List Nat) := ps.map hd1
theorem heads_words {ps : List (List (List Nat))} (h : ∀ p ∈ ps, OkPool p) : ∀ w ∈ heads ps, isWord w = true := by
  intro w hw
  obtain ⟨p, hp, rfl⟩ := List.mem_map.mp hw
  have o := h p hp
  cases p with
  | nil => have := o.lo; simp at this
  | cons a r => exact o.wd a (by simp [hd1])
theorem paths2_ex (ds : List Int) (k dp mn : Nat) {ps : List (List (List Nat))} {la : List (List Nat)} {q : M} (hq : q = .own (.lst ((ps ++ [la]).map poolD)) ∨ q = .val (.lst ((ps ++ [la]).map poolD))) (hps : ∀ p ∈ ps, OkPool p) (hla : OkPool la) (hpl : ps.length ≤ 2) {l0 : List (List (List Nat))} (h0 : OkPaths l0 (ps.length + 1)) {mx : Nat} (hmx : 2 ≤ mx ∧ mx ≤ 8) (h08 : l0.length ≤ mx) :
    ∃ (l : List (List (List Nat))), OkPaths l (ps.length + 1) ∧ 2 ≤ l.length ∧ l.length ≤ mx ∧ loopM (gmName 11) (mKill [9, 11] (mSeq (mSet 9 (mSM fJoin (mC (.str "/")) (mOp fAdd (mLc [0] (mIt (mSl (mName 3) mNoPart (mPart (mNeg (mC (.int 1)))))) (gmName 10) mYes (mOp fIx (mName 10) (mC (.int 0))) [10]) (mLst (mCons (mName 11) mNil)))))
    (mIfS (mAndT (mTst (mOp (fIn true) (mName 9) (mName 7))) (mTst (mOp fLt (mCB fLen (mCons (mName 7) mNil)) (mC (.int 2))))) (mExpr (mApp (mName 7) (mName 9))) mNext))) (la.map dT)
      [some (.own (boxD ds k)), some (.val (.int dp)), some (.val (.int mn)), some q, none, none, none, some (.own (.lst (l0.map leafD))), none, none, none, none] = .nx [some (.own (boxD ds k)), some (.val (.int dp)), some (.val (.int mn)), some q, none, none, none, some (.own (.lst (l.map leafD))), none, none, none, none] := by
  obtain ⟨e', he, l, rfl, w1, w2, w3⟩ := loop_ix (g := gmName 11) (b := (mKill [9, 11] (mSeq (mSet 9 (mSM fJoin (mC (.str "/")) (mOp fAdd (mLc [0] (mIt (mSl (mName 3) mNoPart (mPart (mNeg (mC (.int 1)))))) (gmName 10) mYes (mOp fIx (mName 10) (mC (.int 0))) [10]) (mLst (mCons (mName 11) mNil)))))
    (mIfS (mAndT (mTst (mOp (fIn true) (mName 9) (mName 7))) (mTst (mOp fLt (mCB fLen (mCons (mName 7) mNil)) (mC (.int 2))))) (mExpr (mApp (mName 7) (mName 9))) mNext)))) (ds := la.map dT)
    (fun i e => ∃ (l : List (List (List Nat))), e = [some (.own (boxD ds k)), some (.val (.int dp)), some (.val (.int mn)), some q, none, none, none, some (.own (.lst (l.map leafD))), none, none, none, none] ∧ OkPaths l (ps.length + 1) ∧ l.length ≤ mx ∧ ∀ j, j < i → ∀ w, la[j]? = some w → heads ps ++ [w] ∈ l ∨ 2 ≤ l.length)
    (by
      rintro i d e hd ⟨l, rfl, w1, w2, w3⟩
      have hi : i < la.length := by
        have := (List.getElem?_eq_some_iff.mp hd).1
        simpa using this
      obtain ⟨w, hw⟩ : ∃ w, la[i]? = some w := ⟨_, List.getElem?_eq_getElem hi⟩
      have hd : d = dT w := by
        rw [List.getElem?_map, hw] at hd
        exact (Option.some.inj hd).symm
      subst hd
      have hww : isWord w = true := hla.wd w (List.mem_of_getElem? hw)
      have g2 : ∀ v ∈ heads ps ++ [w], isWord v = true := by
        intro v hv
        rcases List.mem_append.mp hv with h | h
        · exact heads_words hps v h
        · rw [List.mem_singleton.mp h]; exact hww
      have gl : (heads ps ++ [w]).length = ps.length + 1 := by simp [heads]
      have hj := join_path (word_sz g2 (by rw [gl]; omega))
      have hin := in_paths w1 g2
      have hl : l.length < 16777216 := by omega
      have hl2 : l.length ≤ 16777216 := by omega
      have hpz : ps.length + 1 ≤ 16777216 := by omega
      have hpy : ps.length ≤ 16777216 := by omega
      have hstr : strsOf ((ps.map fun p => dT (hd1 p)) ++ [dT w]) = some ((heads ps).map tx ++ [tx w]) := by
        have := strsOf_mapf tx (heads ps ++ [w])
        rw [List.map_append, List.map_append] at this
        unfold heads at this ⊢
        rw [List.map_map] at this
        exact this
      rw [List.map_append] at hj
      have hj : joinS (tx [47]) ((heads ps).map tx ++ [tx w]) = some (.val (.str (tx (pathT (heads ps ++ [w]))))) := hj
      have hcut : cutD (ps.map poolD ++ [poolD la]) none (some (-1)) = ps.map poolD := cutD_init _ _
      have hc : ∀ m8 : M, compM (gmName 10) mYes (mOp fIx (mName 10) (mC (.int 0))) [10] (ps.map poolD) [some (.own (boxD ds k)), some (.val (.int dp)), some (.val (.int mn)), some m8, none, none, none, some (.own (.lst (l.map leafD))), none, none, none, some (.val (dT w))] = .ok (ps.map fun p => dT (hd1 p)) [some (.own (boxD ds k)), some (.val (.int dp)), some (.val (.int mn)), some m8, none, none, none, some (.own (.lst (l.map leafD))), none, none, none, some (.val (dT w))] := by
        intro m8
        rw [comp_map (en := poolD) (f := fun p => dT (hd1 p))]
        intro p hp
        have o := hps p hp
        cases p with
        | nil => have := o.lo; simp at this
        | cons a r =>
          have a0 : atI ((a :: r).map dT) 0 = some (dT a) := atI_nat (j := 0) rfl
          rw [List.map_cons] at a0
          simp [poolD, a0, hd1]
      by_cases h1 : heads ps ++ [w] ∈ l
      · refine ⟨_, .inl ?_, l, rfl, w1, w2, ?_⟩
        · rcases hq with rfl | rfl
          · simp [hcut]
            rw [hc]
            simp [slash_tx, hpy, hpz, hstr, hj, hin, h1]
          · simp [hcut]
            rw [hc]
            simp [slash_tx, hpy, hpz, hstr, hj, hin, h1]
        · intro j hj v hv
          by_cases e : j = i
          · subst e
            rw [hw] at hv; cases hv
            exact .inl h1
          · exact w3 j (by omega) v hv
      · by_cases h2 : l.length < 2
        · refine ⟨_, .inl ?_, l ++ [heads ps ++ [w]], rfl, w1.snoc gl g2 h1, by simp; omega, ?_⟩
          · rcases hq with rfl | rfl
            · simp [hcut]
              rw [hc]
              simp [slash_tx, hpy, hpz, hstr, hj, hin, h1, hl, hl2, h2, leafD]
            · simp [hcut]
              rw [hc]
              simp [slash_tx, hpy, hpz, hstr, hj, hin, h1, hl, hl2, h2, leafD]
          · intro j hj v hv
            by_cases e : j = i
            · subst e
              rw [hw] at hv; cases hv
              exact .inl (by simp)
            · rcases w3 j (by omega) v hv with h | h
              · exact .inl (List.mem_append_left _ h)
              · exact .inr (by simp; omega)
        · refine ⟨_, .inl ?_, l, rfl, w1, w2, fun j hj v hv => .inr (by omega)⟩
          rcases hq with rfl | rfl
          · simp [hcut]
            rw [hc]
            simp [slash_tx, hpy, hpz, hstr, hj, hin, h1, hl, hl2, h2]
          · simp [hcut]
            rw [hc]
            simp [slash_tx, hpy, hpz, hstr, hj, hin, h1, hl, hl2, h2])
    _ ⟨l0, rfl, h0, h08, (by intro j hj; omega)⟩
  refine ⟨l, w1, ?_, w2, he⟩
  rw [List.length_map] at w3
  by_cases h2 : 2 ≤ l.length
  · exact h2
  · have hlo := hla.lo
    obtain ⟨a, ha⟩ : ∃ a, la[0]? = some a := ⟨_, List.getElem?_eq_getElem (by omega)⟩
    obtain ⟨b, hb⟩ : ∃ b, la[1]? = some b := ⟨_, List.getElem?_eq_getElem (by omega)⟩
    have ha2 := (w3 0 (by omega) a ha).resolve_right h2
    have hb2 := (w3 1 (by omega) b hb).resolve_right h2
    have hne : a ≠ b := nodup01 hla.nd ha hb
    have := nodup_len [heads ps ++ [a], heads ps ++ [b]] l (by simp [hne]) (by
      intro x hx
      simp at hx
      rcases hx with rfl | rfl
      · exact ha2
      · exact hb2)
    simpa using this
end VL
set_option Elab.async false
set_option linter.all false
set_option maxRecDepth 100000
set_option maxHeartbeats 4000000
namespace VL
open PySem PySem.Spec PyProof.Rows L2
variable [CM]
def unT (t : List Nat) : List (List Nat) := TL.spl [47] 0 [] t
theorem unT_path {x : List (List Nat)} (h : x ≠ []) (hc : ∀ w ∈ x, clean w) : unT (pathT x) = x := SX.spl_join h fun p hp => (hc p hp).2
theorem lt_of_cps : ∀ a b : List Nat, Spec.ltCps a b = true → a < b
  | [], [], h => by cases h
  | [], _ :: _, _ => by simp
  | _ :: _, [], h => by cases h
  | a :: r, b :: t, h => by
    simp only [Spec.ltCps, Bool.or_eq_true, decide_eq_true_eq, Bool.and_eq_true, beq_iff_eq] at h
    rw [List.cons_lt_cons_iff]
    rcases h with h | ⟨h1, h2⟩
    · exact .inl h
    · exact .inr ⟨h1, lt_of_cps r t h2⟩
theorem sort_good {l : List (List (List Nat))} {d : Nat} (o : OkPaths l d) (h2 : 2 ≤ l.length) (h8 : l.length ≤ 8) (hd : 1 ≤ d ∧ d ≤ 3) : ∃ l', GoodL l' d ∧ l'.length = l.length ∧ (sortL (l.map pathT)).map dT = l'.map leafD := by
  have hp := sortL_perm (l.map pathT)
  have back : ∀ t ∈ sortL (l.map pathT), ∃ x ∈ l, pathT x = t ∧ unT t = x := by
    intro t ht
    obtain ⟨x, hx, e⟩ := List.mem_map.mp (hp.mem_iff.mp ht)
    refine ⟨x, hx, e, ?_⟩
    rw [← e]
    refine unT_path ?_ (o.clean x hx)
    intro z
    have := (o.wd x hx).1
    rw [z] at this
    simp at this; omega
  have hlen : (sortL (l.map pathT)).length = l.length := by rw [hp.length_eq, List.length_map]
  have hnd : (sortL (l.map pathT)).Nodup := by
    refine hp.nodup_iff.mpr ?_
    have := o.nd
    rw [List.nodup_iff_pairwise_ne] at this ⊢
    rw [List.pairwise_map]
    refine this.imp_of_mem fun {a b} ha hb ne e => ne (pathT_inj (o.clean a ha) (o.clean b hb) e)
  have hpw := sortL_pw (l.map pathT)
  generalize sortL (l.map pathT) = s at back hlen hnd hpw
  refine ⟨s.map unT, ⟨by simpa [hlen] using h2, by simpa [hlen] using h8, hd.1, hd.2, ?_, ?_⟩, by simp [hlen], ?_⟩
  · intro ws hws
    obtain ⟨t, ht, rfl⟩ := List.mem_map.mp hws
    obtain ⟨x, hx, _, e⟩ := back t ht
    rw [e]; exact o.wd x hx
  · intro i a b ha hb
    rw [List.getElem?_map] at ha hb
    cases h1 : s[i]? with
    | none => rw [h1] at ha; cases ha
    | some t =>
      cases h3 : s[i + 1]? with
      | none => rw [h3] at hb; cases hb
      | some u =>
        rw [h1] at ha; rw [h3] at hb
        cases ha; cases hb
        obtain ⟨x, hx, e1, e2⟩ := back t (List.mem_of_getElem? h1)
        obtain ⟨y, hy, e3, e4⟩ := back u (List.mem_of_getElem? h3)
        rw [e2, e4, e1, e3]
        obtain ⟨i1, g1⟩ := List.getElem?_eq_some_iff.mp h1
        obtain ⟨i2, g2⟩ := List.getElem?_eq_some_iff.mp h3
        have hle : leL t u = true := by
          have := List.pairwise_iff_getElem.mp hpw i (i + 1) i1 i2 (by omega)
          rwa [g1, g2] at this
        have hne : t ≠ u := by
          have := List.pairwise_iff_getElem.mp (List.nodup_iff_pairwise_ne.mp hnd) i (i + 1) i1 i2 (by omega)
          rwa [g1, g2] at this
        have hlt : Spec.ltCps t u = true := by
          cases hz : Spec.ltCps t u with
          | true => rfl
          | false => exact absurd (leL_anti t u hle (by unfold leL; rw [hz]; rfl)) hne
        show strLt (tx t) (tx u) = true
        unfold strLt
        simpa using lt_of_cps t u hlt
  · rw [List.map_map]
    refine List.map_congr_left fun t ht => ?_
    obtain ⟨x, hx, e1, e2⟩ := back t ht
    show dT t = leafD (unT t)
    rw [e2]; unfold leafD; rw [e1]
theorem law_leaves_ex (ds : List Int) (k dp mn : Nat) (hdp : 1 ≤ dp ∧ dp ≤ 3) (h2 : 2 ≤ mn) (h8 : mn ≤ 8) : ∃ (l : List (List (List Nat))) (k' : Nat), GoodL l dp ∧ l.length ≤ mn ∧ F_law_leaves [.own (boxD ds k), .val (.int dp), .val (.int mn)] = .ok (.val (.tup (l.map leafD))) [.own (boxD ds k'), .val (.int dp), .val (.int mn)] := by
  obtain ⟨ps, k1, g1, g2, g3⟩ := pools_ex ds k dp mn hdp.2 h2 h8
  have hpl : ps.length ≤ 3 := by omega
  obtain ⟨l1, k2, q, hq, o1, o2, g4⟩ := paths_ex ds k1 dp mn (2 * mn) h8 (.inl rfl) g2 hpl
  obtain ⟨ini, la, rfl⟩ : ∃ ini la, ps = ini ++ [la] := by
    rcases List.eq_nil_or_concat ps with rfl | ⟨ini, la, rfl⟩
    · simp at g1; omega
    · exact ⟨ini, la, by simp⟩
  have e1 : (ini ++ [la]).length = ini.length + 1 := by simp
  rw [e1] at o1 g1
  obtain ⟨l2, p1, p2, p3, g5⟩ := paths2_ex ds k2 dp mn hq (fun p hp => g2 p (by simp [hp])) (g2 la (by simp)) (by omega) o1 (mx := mn) ⟨h2, h8⟩ (by omega)
  obtain ⟨l3, q1, q2, q3⟩ := sort_good p1 p2 (by omega) (by omega)
  refine ⟨l3, k2, by rw [← g1]; exact q1, by omega, ?_⟩
  have hd4 : dp < 4611686018427387904 := by omega
  have hm4 : 2 * mn < 4611686018427387904 := by omega
  have hm5 : (2 : Int) * (mn : Int) = ((2 * mn : Nat) : Int) := by simp
  have al : atI ((ini ++ [la]).map poolD) (-1) = some (poolD la) := by rw [List.map_append]; exact atI_last _ _
  have hs : sortS ((l2.map pathT).map tx) = some (.tmp (.lst ((sortL (l2.map pathT)).map dT))) := sortS_tx (by simp; omega)
  have hs2 : strsOf (l2.map leafD) = some ((l2.map pathT).map tx) := by rw [strsOf_leaf, List.map_map]; rfl
  have hl3 : l3.length ≤ 16777216 := by omega
  simp [F_law_leaves, hd4, -List.map_append]
  rw [g3]
  simp [-List.map_append]
  rw [hm5]
  simp only [rng1_nat hm4]
  simp [-List.map_append]
  rw [g4]
  rcases hq with rfl | rfl
  · simp [-List.map_append, al]
    simp [-List.map_append, poolD]
    rw [g5]
    simp [hs2, hs, q3, hl3, -List.map_map]
  · simp [-List.map_append, al]
    simp [-List.map_append, poolD]
    rw [g5]
    simp [hs2, hs, q3, hl3, -List.map_map]
end VL
set_option Elab.async false
set_option linter.all false
set_option maxRecDepth 100000
set_option maxHeartbeats 4000000
namespace VL
open PySem PySem.Spec PyProof.Rows L2
noncomputable def F_law_wide : FN := fnM 3 13 [] (mSeq (mOwn 3 (mCall F_law_box (mCons (mName 0) (mCons (mName 1) mNil))))
    (mSeq (mOwn 4 (mLst mNil))
    (mSeq (mOwn 5 (mLst mNil))
    (mSeq (mKill [2] (mFor (mRng (mCons (mOp fAdd (mC (.int 1)) (mCall F_law_draw (mCons (mName 3) (mCons (mC (.int 3)) mNil)))) mNil)) (gmName 6) (mKill [6, 7, 8, 9, 10, 11, 12] (mSeq (mOwn 7 (mCall F_law_box (mCons (mName 0) (mCons (mOp fAdd (mOp fAdd (mName 1) (mC (.int 1))) (mName 6)) mNil))))
    (mKill [8, 9, 10, 11, 12] (mIfS (mTst (mOp fGe (mName 2) (mC (.int 2)))) (mSeq (mSet 8 (mOp fAdd (mC (.int 1)) (mCall F_law_draw (mCons (mName 7) (mCons (mC (.int 3)) mNil)))))
    (mSeq (mSet 9 (mCB fMin2 (mCons (mOp fAdd (mC (.int 2)) (mCall F_law_draw (mCons (mName 7) (mCons (mC (.int 7)) mNil)))) (mCons (mName 2) mNil))))
    (mSeq (mSet 10 (mOp (fEq false) (mCall F_law_draw (mCons (mName 7) (mCons (mC (.int 3)) mNil))) (mC (.int 0))))
    (mSeq (mSet 11 (mIf (mTst (mName 10)) (mCall F_law_plain_leaves (mCons (mName 8) (mCons (mName 9) mNil))) (mCall F_law_leaves (mCons (mName 7) (mCons (mName 8) (mCons (mName 9) mNil))))))
    (mSeq (mSet 2 (mOp fDiv (mName 2) (mCB fLen (mCons (mName 11) mNil))))
    (mSeq (mSet 12 (mCall F_law_word (mCons (mName 7) (mCons (mName 5) mNil))))
    (mSeq (mExpr (mApp (mName 5) (mName 12)))
    (mExpr (mApp (mName 4) (mTup (mCons (mName 12) (mCons (mName 11) mNil)))))))))))) mNext))))))
    (mRet [] (mCB fTuple (mCons (mName 4) mNil)))))))
variable [CM]
structure PartD (ms : List Dim) (lf : Nat) : Prop where
  good : ∀ m ∈ ms, isWord m.nm = true ∧ GoodL m.ls m.dp
  nd : (ms.map (·.nm)).Nodup
  few : cellsN ms * lf ≤ 48
  one : 1 ≤ lf
theorem wide_turn (ns : List Int) (f0 lf i k0 : Nat) (ds0 : List Int) {ms : List Dim} (h : PartD ms lf) (hl : ms.length ≤ 3) (h2 : 2 ≤ lf) :
    ∃ (m : Dim) (lf' : Nat), PartD (ms ++ [m]) lf' ∧ turnM (gmName 6) (mKill [6, 7, 8, 9, 10, 11, 12] (mSeq (mOwn 7 (mCall F_law_box (mCons (mName 0) (mCons (mOp fAdd (mOp fAdd (mName 1) (mC (.int 1))) (mName 6)) mNil))))
    (mKill [8, 9, 10, 11, 12] (mIfS (mTst (mOp fGe (mName 2) (mC (.int 2)))) (mSeq (mSet 8 (mOp fAdd (mC (.int 1)) (mCall F_law_draw (mCons (mName 7) (mCons (mC (.int 3)) mNil)))))
    (mSeq (mSet 9 (mCB fMin2 (mCons (mOp fAdd (mC (.int 2)) (mCall F_law_draw (mCons (mName 7) (mCons (mC (.int 7)) mNil)))) (mCons (mName 2) mNil))))
    (mSeq (mSet 10 (mOp (fEq false) (mCall F_law_draw (mCons (mName 7) (mCons (mC (.int 3)) mNil))) (mC (.int 0))))
    (mSeq (mSet 11 (mIf (mTst (mName 10)) (mCall F_law_plain_leaves (mCons (mName 8) (mCons (mName 9) mNil))) (mCall F_law_leaves (mCons (mName 7) (mCons (mName 8) (mCons (mName 9) mNil))))))
    (mSeq (mSet 2 (mOp fDiv (mName 2) (mCB fLen (mCons (mName 11) mNil))))
    (mSeq (mSet 12 (mCall F_law_word (mCons (mName 7) (mCons (mName 5) mNil))))
    (mSeq (mExpr (mApp (mName 5) (mName 12)))
    (mExpr (mApp (mName 4) (mTup (mCons (mName 12) (mCons (mName 11) mNil)))))))))))) mNext)))) (.int i)
      [some (.val (.scr (iD ns))), some (.val (.int f0)), some (.val (.int lf)), some (.own (boxD ds0 k0)), some (.own (.lst (ms.map Dim.d))), some (.own (.lst (ms.map fun m => dT m.nm))), none, none, none, none, none, none, none] = .nx [some (.val (.scr (iD ns))), some (.val (.int f0)), some (.val (.int lf')), some (.own (boxD ds0 k0)), some (.own (.lst ((ms ++ [m]).map Dim.d))), some (.own (.lst ((ms ++ [m]).map fun m => dT m.nm))), none, none, none, none, none, none, none] := by
  obtain ⟨ds, _, hb⟩ := law_box_ex ns (k := (f0 : Int) + 1 + i) (by omega)
  obtain ⟨r1, hr1, er1⟩ := draw_ex ds 0 (m := 3) (by decide)
  obtain ⟨r2, hr2, er2⟩ := draw_ex ds 1 (m := 7) (by decide)
  obtain ⟨r3, hr3, er3⟩ := draw_ex ds 2 (m := 3) (by decide)
  have hg : ¬ lf < 2 := by omega
  simp [hb, h2, hg, law_draw_eq, er1, er2, er3]
  have hm1 : (if (lf : Int) < 2 + (r2 : Int) then (lf : Int) else 2 + (r2 : Int)) = ((min (2 + r2) lf : Nat) : Int) := by
    split <;> omega
  have hm2 : (1 : Int) + (r1 : Int) = ((1 + r1 : Nat) : Int) := by simp
  rw [hm1, hm2]
  have mlo : 2 ≤ min (2 + r2) lf := by omega
  have mhi : min (2 + r2) lf ≤ 8 := by omega
  have mlf : min (2 + r2) lf ≤ lf := by omega
  have hL : ∃ (ls : List (List (List Nat))) (k3 : Nat), GoodL ls (1 + r1) ∧ ls.length ≤ min (2 + r2) lf ∧ ifK (mCall F_law_plain_leaves (mCons (mName 8) (mCons (mName 9) mNil))) (mCall F_law_leaves (mCons (mName 7) (mCons (mName 8) (mCons (mName 9) mNil)))) (R.ok (decide (r3 = 0)) [some (.val (.scr (iD ns))), some (.val (.int f0)), some (.val (.int lf)), some (.own (boxD ds0 k0)), some (.own (.lst (ms.map Dim.d))), some (.own (.lst (ms.map fun m => dT m.nm))), some (.val (.int i)), some (.own (boxD ds 3)), some (.val (.int ((1 + r1 : Nat) : Int))), some (.val (.int ((min (2 + r2) lf : Nat) : Int))), some (.val (.bl (decide (r3 = 0)))), none, none]) = .ok (.val (.tup (ls.map leafD))) [some (.val (.scr (iD ns))), some (.val (.int f0)), some (.val (.int lf)), some (.own (boxD ds0 k0)), some (.own (.lst (ms.map Dim.d))), some (.own (.lst (ms.map fun m => dT m.nm))), some (.val (.int i)), some (.own (boxD ds k3)), some (.val (.int ((1 + r1 : Nat) : Int))), some (.val (.int ((min (2 + r2) lf : Nat) : Int))), some (.val (.bl (decide (r3 = 0)))), none, none] := by
    generalize min (2 + r2) lf = mn at mlo mhi mlf
    by_cases hc : r3 = 0
    · have hp := plain_leaves_eq (d := 1 + r1) (n := mn) ⟨by omega, by omega⟩ ⟨mlo, mhi⟩
      exact ⟨plainL (1 + r1) mn, 3, goodB_of (plain_good (1 + r1) (by omega) mn (by omega) (by omega) mlo), by simp [plainL], by simp only [hc, decide_true]; simp [hp, -Int.natCast_add]⟩
    · obtain ⟨l, k', q1, q2, q3⟩ := law_leaves_ex ds 3 (1 + r1) mn ⟨by omega, by omega⟩ mlo mhi
      exact ⟨l, k', q1, q2, by simp [hc, q3, -Int.natCast_add]⟩
  obtain ⟨ls, k3, q1, q2, q3⟩ := hL
  rw [q3]
  obtain ⟨w, k4, w1, w2, w3⟩ := law_word_ex ds k3 (taken := ms.map (·.nm)) (by simp; omega) (.inl rfl)
  rw [List.map_map] at w3
  have w3 : F_law_word [.own (boxD ds k3), .own (.lst (ms.map fun m => dT m.nm))] = .ok (.val (dT w)) [.own (boxD ds k4), .own (.lst (ms.map fun m => dT m.nm))] := w3
  have hlo := q1.lo
  have hls : ls.length ≤ 16777216 := by omega
  have hdv : (0 : Int) < (ls.length : Int) ∧ (ls.length : Int) < 1000000000 := by omega
  have hfd : (lf : Int).fdiv (ls.length : Int) = ((lf / ls.length : Nat) : Int) := by
    rw [Int.fdiv_eq_ediv_of_nonneg _ (by omega)]; simp
  have hml : ms.length < 16777216 := by omega
  refine ⟨⟨w, ls, 1 + r1⟩, lf / ls.length, ⟨?_, ?_, ?_, ?_⟩, ?_⟩
  · intro m hm
    rcases List.mem_append.mp hm with z | z
    · exact h.good m z
    · rw [List.mem_singleton.mp z]; exact ⟨w1, q1⟩
  · rw [List.map_append]
    refine List.nodup_append.mpr ⟨h.nd, by simp, fun a ha b hb e => ?_⟩
    have hb : b = w := by simpa using hb
    subst hb; subst e
    exact w2 ha
  · rw [cells_snoc]
    show cellsN ms * ls.length * (lf / ls.length) ≤ 48
    have h1 : ls.length * (lf / ls.length) ≤ lf := Nat.mul_div_le _ _
    rw [Nat.mul_assoc]
    exact Nat.le_trans (Nat.mul_le_mul_left _ h1) h.few
  · exact Nat.div_pos (by omega) (by omega)
  · have hdI : divI (lf : Int) (ls.length : Int) = some (.val (.int ((lf / ls.length : Nat) : Int))) := by rw [divI_s hdv, hfd]
    simp [hls, hdI, w3, hml, Dim.d]
theorem wide_skip (ns : List Int) (f0 lf i k0 : Nat) (ds0 : List Int) {ms : List Dim} (h2 : lf < 2) : turnM (gmName 6) (mKill [6, 7, 8, 9, 10, 11, 12] (mSeq (mOwn 7 (mCall F_law_box (mCons (mName 0) (mCons (mOp fAdd (mOp fAdd (mName 1) (mC (.int 1))) (mName 6)) mNil))))
    (mKill [8, 9, 10, 11, 12] (mIfS (mTst (mOp fGe (mName 2) (mC (.int 2)))) (mSeq (mSet 8 (mOp fAdd (mC (.int 1)) (mCall F_law_draw (mCons (mName 7) (mCons (mC (.int 3)) mNil)))))
    (mSeq (mSet 9 (mCB fMin2 (mCons (mOp fAdd (mC (.int 2)) (mCall F_law_draw (mCons (mName 7) (mCons (mC (.int 7)) mNil)))) (mCons (mName 2) mNil))))
    (mSeq (mSet 10 (mOp (fEq false) (mCall F_law_draw (mCons (mName 7) (mCons (mC (.int 3)) mNil))) (mC (.int 0))))
    (mSeq (mSet 11 (mIf (mTst (mName 10)) (mCall F_law_plain_leaves (mCons (mName 8) (mCons (mName 9) mNil))) (mCall F_law_leaves (mCons (mName 7) (mCons (mName 8) (mCons (mName 9) mNil))))))
    (mSeq (mSet 2 (mOp fDiv (mName 2) (mCB fLen (mCons (mName 11) mNil))))
    (mSeq (mSet 12 (mCall F_law_word (mCons (mName 7) (mCons (mName 5) mNil))))
    (mSeq (mExpr (mApp (mName 5) (mName 12)))
    (mExpr (mApp (mName 4) (mTup (mCons (mName 12) (mCons (mName 11) mNil)))))))))))) mNext)))) (.int i)
      [some (.val (.scr (iD ns))), some (.val (.int f0)), some (.val (.int lf)), some (.own (boxD ds0 k0)), some (.own (.lst (ms.map Dim.d))), some (.own (.lst (ms.map fun m => dT m.nm))), none, none, none, none, none, none, none] = .nx [some (.val (.scr (iD ns))), some (.val (.int f0)), some (.val (.int lf)), some (.own (boxD ds0 k0)), some (.own (.lst (ms.map Dim.d))), some (.own (.lst (ms.map fun m => dT m.nm))), none, none, none, none, none, none, none] := by
  obtain ⟨ds, _, hb⟩ := law_box_ex ns (k := (f0 : Int) + 1 + i) (by omega)
  have hg : ¬ 2 ≤ lf := by omega
  simp [hb, h2, hg]
theorem law_wide_ex (ns : List Int) (f0 left : Nat) (hleft : 2 ≤ left ∧ left ≤ 48) : ∃ ms : List Dim, GoodD ms ∧ F_law_wide [.val (.scr (iD ns)), .val (.int f0), .val (.int left)] = .ok (.val (.tup (ms.map Dim.d))) [.val (.scr (iD ns)), .val (.int f0), .val (.int left)] := by
  obtain ⟨ds0, _, hb⟩ := law_box_ex ns (k := (f0 : Int)) (by omega)
  obtain ⟨r, hr, er⟩ := draw_ex ds0 0 (m := 3) (by decide)
  obtain ⟨e', he, ms, lf, rfl, g1, g2, g3, g4⟩ := loop_ix (g := gmName 6) (b := (mKill [6, 7, 8, 9, 10, 11, 12] (mSeq (mOwn 7 (mCall F_law_box (mCons (mName 0) (mCons (mOp fAdd (mOp fAdd (mName 1) (mC (.int 1))) (mName 6)) mNil))))
    (mKill [8, 9, 10, 11, 12] (mIfS (mTst (mOp fGe (mName 2) (mC (.int 2)))) (mSeq (mSet 8 (mOp fAdd (mC (.int 1)) (mCall F_law_draw (mCons (mName 7) (mCons (mC (.int 3)) mNil)))))
    (mSeq (mSet 9 (mCB fMin2 (mCons (mOp fAdd (mC (.int 2)) (mCall F_law_draw (mCons (mName 7) (mCons (mC (.int 7)) mNil)))) (mCons (mName 2) mNil))))
    (mSeq (mSet 10 (mOp (fEq false) (mCall F_law_draw (mCons (mName 7) (mCons (mC (.int 3)) mNil))) (mC (.int 0))))
    (mSeq (mSet 11 (mIf (mTst (mName 10)) (mCall F_law_plain_leaves (mCons (mName 8) (mCons (mName 9) mNil))) (mCall F_law_leaves (mCons (mName 7) (mCons (mName 8) (mCons (mName 9) mNil))))))
    (mSeq (mSet 2 (mOp fDiv (mName 2) (mCB fLen (mCons (mName 11) mNil))))
    (mSeq (mSet 12 (mCall F_law_word (mCons (mName 7) (mCons (mName 5) mNil))))
    (mSeq (mExpr (mApp (mName 5) (mName 12)))
    (mExpr (mApp (mName 4) (mTup (mCons (mName 12) (mCons (mName 11) mNil)))))))))))) mNext))))) (ds := (List.range (1 + r)).map fun k : Nat => D.int k)
    (fun i e => ∃ (ms : List Dim) (lf : Nat), e = [some (.val (.scr (iD ns))), some (.val (.int f0)), some (.val (.int lf)), some (.own (boxD ds0 1)), some (.own (.lst (ms.map Dim.d))), some (.own (.lst (ms.map fun m => dT m.nm))), none, none, none, none, none, none, none] ∧ PartD ms lf ∧ ms.length ≤ i ∧ (i = 0 → 2 ≤ lf) ∧ (1 ≤ i → 1 ≤ ms.length))
    (by
      rintro i d e hd ⟨ms, lf, rfl, g1, g2, g3, g4⟩
      have hi : i < 1 + r := by
        have := (List.getElem?_eq_some_iff.mp hd).1
        simpa using this
      have hd : d = .int (i : Nat) := by
        rw [List.getElem?_map, List.getElem?_range hi] at hd
        exact (Option.some.inj hd).symm
      subst hd
      by_cases h2 : 2 ≤ lf
      · obtain ⟨m, lf', q1, q2⟩ := wide_turn ns f0 lf i 1 ds0 g1 (by omega) h2
        exact ⟨_, .inl q2, ms ++ [m], lf', rfl, q1, by simp; omega, by intro z; omega, by intro _; simp⟩
      · refine ⟨_, .inl (wide_skip ns f0 lf i 1 ds0 (by omega)), ms, lf, rfl, g1, by omega, by intro z; omega, fun _ => g4 ?_⟩
        apply Classical.byContradiction
        intro z
        exact h2 (g3 (by omega)))
    _ ⟨[], left, rfl, ⟨(by intro m hm; cases hm), List.nodup_nil, by show 1 * left ≤ 48; omega, by omega⟩, Nat.le_refl _, fun _ => hleft.1, fun z => by omega⟩
  rw [List.length_map, List.length_range] at g2 g3 g4
  have h1 := g4 (by omega)
  refine ⟨ms, ⟨h1, by omega, g1.good, g1.nd, ?_⟩, ?_⟩
  · have := g1.few
    have := g1.one
    calc cellsN ms = cellsN ms * 1 := (Nat.mul_one _).symm
      _ ≤ cellsN ms * lf := Nat.mul_le_mul_left _ g1.one
      _ ≤ 48 := g1.few
  · have hc : (1 : Int) + (r : Int) = ((1 + r : Nat) : Int) := by simp
    have hr4 : 1 + r < 4611686018427387904 := by omega
    have hml : ms.length ≤ 16777216 := by omega
    simp [F_law_wide, hb, law_draw_eq, er]
    rw [hc]
    simp only [rng1_nat hr4]
    simp
    rw [List.map_nil, List.map_nil] at he
    rw [he]
    simp [hml]
end VL
set_option Elab.async false
set_option linter.all false
set_option maxRecDepth 100000
set_option maxHeartbeats 4000000
namespace VL
open PySem PySem.Spec PyProof.Rows L2
variable [CM]
def LevOk : List Nat → List Dim → Prop
  | [], [] => True
  | g :: gs, m :: ms => g ≤ m.dp ∧ LevOk gs ms
  | _, _ => False
theorem LevOk.len : ∀ {gs : List Nat} {ms : List Dim}, LevOk gs ms → gs.length = ms.length
  | [], [], _ => rfl
  | g :: gs, m :: ms, h => by simp [LevOk.len h.2]
  | [], _ :: _, h => h.elim
  | _ :: _, [], h => h.elim
end VL
set_option Elab.async false
set_option linter.all false
set_option maxRecDepth 100000
set_option maxHeartbeats 4000000
namespace VL
open PySem PySem.Spec PyProof.Rows L2
variable [CM]
end VL
set_option Elab.async false
set_option linter.all false
set_option maxRecDepth 100000
set_option maxHeartbeats 4000000
namespace VL
open PySem PySem.Spec PyProof.Rows L2
variable [CM]
theorem LevOk.at_ : ∀ {gs : List Nat} {ms : List Dim}, LevOk gs ms → ∀ i, i < gs.length → ∃ g m, gs[i]? = some g ∧ ms[i]? = some m ∧ g ≤ m.dp
  | [], _, _, i, h => by simp at h
  | _ :: _, [], h, _, _ => h.elim
  | g :: gs, m :: ms, h, 0, _ => ⟨g, m, rfl, rfl, h.1⟩
  | g :: gs, m :: ms, h, i + 1, hi => by
    obtain ⟨a, b, h1, h2, h3⟩ := LevOk.at_ h.2 i (by simpa using hi)
    exact ⟨a, b, by simpa using h1, by simpa using h2, h3⟩
end VL
set_option Elab.async false
set_option linter.all false
set_option maxRecDepth 100000
set_option maxHeartbeats 4000000
namespace VL
open PySem PySem.Spec PyProof.Rows L2
variable [CM]
def PartOk : List Nat → List Dim → Prop
  | [], [] => True
  | p :: ps, m :: ms => p < m.ls.length ∧ PartOk ps ms
  | _, _ => False
theorem PartOk.at_ : ∀ {ps : List Nat} {ms : List Dim}, PartOk ps ms → ∀ (i : Nat) (m : Dim), ms[i]? = some m → ∃ p, ps[i]? = some p ∧ p < m.ls.length
  | [], [], _, _, _, h => by simp at h
  | [], _ :: _, h, _, _, _ => h.elim
  | _ :: _, [], h, _, _, _ => h.elim
  | p :: ps, m :: ms, h, 0, x, e => by
    have e : m = x := by simpa using e
    subst e
    exact ⟨p, rfl, h.1⟩
  | p :: ps, m :: ms, h, i + 1, x, e => by
    obtain ⟨q, h1, h2⟩ := PartOk.at_ h.2 i x (by simpa using e)
    exact ⟨q, by simpa using h1, h2⟩
end VL
set_option Elab.async false
set_option linter.all false
set_option maxRecDepth 100000
set_option maxHeartbeats 4000000
namespace VL
open PySem PySem.Spec PyProof.Rows L2
variable [CM]
def prodN : List Dim → Nat
  | [] => 1
  | m :: ms => m.ls.length * prodN ms
theorem foldl_mul : ∀ (l : List Nat) (a : Nat), l.foldl (· * ·) a = a * l.foldl (· * ·) 1
  | [], a => by simp
  | x :: l, a => by
    rw [List.foldl_cons, List.foldl_cons, foldl_mul l (a * x), foldl_mul l (1 * x), Nat.one_mul, Nat.mul_assoc]
theorem cells_prod : ∀ ms : List Dim, cellsN ms = prodN ms
  | [] => rfl
  | m :: ms => by
    have ih := cells_prod ms
    unfold cellsN at ih ⊢
    rw [List.map_cons, List.foldl_cons, foldl_mul, ih, Nat.one_mul]; rfl
def posD (ms : List Dim) : Prop := ∀ m ∈ ms, 0 < m.ls.length
theorem GoodD.pos {ms : List Dim} (g : GoodD ms) : posD ms := fun m h => by have := (g.good m h).2.lo; omega
theorem posD.tail {m : Dim} {ms : List Dim} (h : posD (m :: ms)) : posD ms := fun x hx => h x (List.mem_cons_of_mem _ hx)
theorem posD.head {m : Dim} {ms : List Dim} (h : posD (m :: ms)) : 0 < m.ls.length := h m (List.mem_cons_self ..)
theorem PartOk.len : ∀ {ps : List Nat} {ms : List Dim}, PartOk ps ms → ps.length = ms.length
  | [], [], _ => rfl
  | [], _ :: _, h => h.elim
  | _ :: _, [], h => h.elim
  | p :: ps, m :: ms, h => by simp [PartOk.len h.2]
section
variable {ms : List Dim}
@[simp] theorem sp_dims : lookF (Str.ofString "dimensions") (spaceF ms) = some (.tup (ms.map Dim.d)) := by simp [spaceF]
@[simp] theorem sp_table : lookF (Str.ofString "table") (spaceF ms) = some (.tup (ms.map rowD)) := by simp [spaceF]
@[simp] theorem sp_inner : lookF (Str.ofString "inner") (spaceF ms) = some (.tup (ms.map innD)) := by simp [spaceF]
@[simp] theorem sp_many : lookF (Str.ofString "many") (spaceF ms) = some (.int (prodN ms : Nat)) := by simp [spaceF, cells_prod]
@[simp] theorem sp_no_depth : lookF (Str.ofString "depth") (spaceF ms) = none := by simp [spaceF]
@[simp] theorem sp_no_members : lookF (Str.ofString "members") (spaceF ms) = none := by simp [spaceF]
@[simp] theorem sp_no_dimension_at : lookF (Str.ofString "dimension_at") (spaceF ms) = none := by simp [spaceF]
@[simp] theorem sp_no_leaves_of : lookF (Str.ofString "leaves_of") (spaceF ms) = none := by simp [spaceF]
@[simp] theorem sp_no_parts : lookF (Str.ofString "parts") (spaceF ms) = none := by simp [spaceF]
@[simp] theorem sp_no_coordinates : lookF (Str.ofString "coordinates") (spaceF ms) = none := by simp [spaceF]
@[simp] theorem sp_no_cell : lookF (Str.ofString "cell") (spaceF ms) = none := by simp [spaceF]
end
end VL
set_option Elab.async false
set_option linter.all false
set_option maxRecDepth 100000
set_option maxHeartbeats 4000000
namespace VL
open PySem PySem.Spec PyProof.Rows L2
variable [CM]
def Pl : Nat → D → Prop
  | _, .non => True
  | _, .int _ => True
  | _, .str x => PyData.strOk x = true
  | n + 1, .tup ds => ∀ d ∈ ds, Pl n d
  | n + 1, .lst ds => ∀ d ∈ ds, Pl n d
  | _, _ => False
@[simp] theorem Pl_int {n : Nat} {i : Int} : Pl n (.int i) := by cases n <;> trivial
@[simp] theorem Pl_non {n : Nat} : Pl n .non := by cases n <;> trivial
@[simp] theorem Pl_str {n : Nat} {x : Str} : Pl n (.str x) = (PyData.strOk x = true) := by cases n <;> rfl
@[simp] theorem Pl_tup {n : Nat} {ds : List D} : Pl (n + 1) (.tup ds) = ∀ d ∈ ds, Pl n d := rfl
@[simp] theorem Pl_lst {n : Nat} {ds : List D} : Pl (n + 1) (.lst ds) = ∀ d ∈ ds, Pl n d := rfl
def Lay (n : Nat) (d : D) (p : PyData) : Prop := toPy d = some p ∧ p.canLay0 = true ∧ p.depth ≤ n
theorem toPys_ex {n : Nat} (ih : ∀ d, Pl n d → ∃ p, Lay n d p) : ∀ ds : List D, (∀ d ∈ ds, Pl n d) → ∃ ps, toPys ds = some ps ∧ PyData.canLayAll0 ps = true ∧ PyData.depthAll ps ≤ n
  | [], _ => ⟨[], by unfold toPys; rfl, by simp [PyData.canLayAll0], by simp [PyData.depthAll]⟩
  | d :: ds, h => by
    obtain ⟨p, h1, h2, h3⟩ := ih d (h d (by simp))
    obtain ⟨ps, h4, h5, h6⟩ := toPys_ex ih ds fun x hx => h x (List.mem_cons_of_mem _ hx)
    refine ⟨p :: ps, by unfold toPys; rw [h1, h4], by simp [PyData.canLayAll0, h2, h5], ?_⟩
    rw [PyData.depthAll]
    exact Nat.max_le.mpr ⟨h3, h6⟩
theorem Pl_lay : ∀ (n : Nat) (d : D), Pl n d → ∃ p, Lay n d p
  | n, .non, _ => ⟨.none, by unfold toPy; rfl, by simp [PyData.canLay0], by simp [PyData.depth]⟩
  | n, .int i, _ => ⟨.int i, by unfold toPy; rfl, by simp [PyData.canLay0], by simp [PyData.depth]⟩
  | n, .str x, h => ⟨.str x, by unfold toPy; rfl, by simpa [PyData.canLay0] using h, by simp [PyData.depth]⟩
  | n + 1, .tup ds, h => by
    obtain ⟨ps, h1, h2, h3⟩ := toPys_ex (Pl_lay n) ds h
    exact ⟨.tuple ps, by unfold toPy; rw [h1]; rfl, by simpa [PyData.canLay0] using h2, by rw [PyData.depth]; omega⟩
  | n + 1, .lst ds, h => by
    obtain ⟨ps, h1, h2, h3⟩ := toPys_ex (Pl_lay n) ds h
    exact ⟨.list ps, by unfold toPy; rw [h1]; rfl, by simpa [PyData.canLay0] using h2, by rw [PyData.depth]; omega⟩
  | 0, .tup _, h => h.elim
  | 0, .lst _, h => h.elim
  | 0, .bl _, h => h.elim
  | _ + 1, .bl _, h => h.elim
  | 0, .obj _ _, h => h.elim
  | _ + 1, .obj _ _, h => h.elim
  | 0, .scr _, h => h.elim
  | _ + 1, .scr _, h => h.elim
theorem toPys_inv {d : D} {ds : List D} {ps : List PyData} (h : toPys (d :: ds) = some ps) : ∃ p r, ps = p :: r ∧ toPy d = some p ∧ toPys ds = some r := by
  unfold toPys at h
  split at h
  · rename_i x xs h1 h2; cases h; exact ⟨x, xs, rfl, h1, h2⟩
  · cases h
theorem toPys_nil {ps : List PyData} (h : toPys [] = some ps) : ps = [] := by unfold toPys at h; cases h; rfl
theorem toPy_tup {ds : List D} {p : PyData} (h : toPy (.tup ds) = some p) : ∃ ps, toPys ds = some ps ∧ p = .tuple ps := by
  unfold toPy at h
  cases h1 : toPys ds with
  | none => rw [h1] at h; cases h
  | some ps => rw [h1] at h; cases h; exact ⟨ps, rfl, rfl⟩
theorem toPy_lst {ds : List D} {p : PyData} (h : toPy (.lst ds) = some p) : ∃ ps, toPys ds = some ps ∧ p = .list ps := by
  unfold toPy at h
  cases h1 : toPys ds with
  | none => rw [h1] at h; cases h
  | some ps => rw [h1] at h; cases h; exact ⟨ps, rfl, rfl⟩
theorem toPy_non {p : PyData} (h : toPy .non = some p) : p = .none := by unfold toPy at h; cases h; rfl
theorem toPy_int {i : Int} {p : PyData} (h : toPy (.int i) = some p) : p = .int i := by unfold toPy at h; cases h; rfl
theorem toPy_str {i : Str} {p : PyData} (h : toPy (.str i) = some p) : p = .str i := by unfold toPy at h; cases h; rfl
theorem Pl_eqvs {n : Nat} (ih : ∀ a b p q, Pl n a → Pl n b → toPy a = some p → toPy b = some q → (PyData.eqv p q = true ↔ a = b)) :
    ∀ (as bs : List D) (ps qs : List PyData), (∀ d ∈ as, Pl n d) → (∀ d ∈ bs, Pl n d) → toPys as = some ps → toPys bs = some qs → (PyData.eqvAll ps qs = true ↔ as = bs)
  | [], [], ps, qs, _, _, h1, h2 => by
    rw [toPys_nil h1, toPys_nil h2]; simp [PyData.eqvAll]
  | [], b :: bs, ps, qs, _, _, h1, h2 => by
    obtain ⟨p, r, rfl, _, _⟩ := toPys_inv h2
    rw [toPys_nil h1]; simp [PyData.eqvAll]
  | a :: as, [], ps, qs, _, _, h1, h2 => by
    obtain ⟨p, r, rfl, _, _⟩ := toPys_inv h1
    rw [toPys_nil h2]; simp [PyData.eqvAll]
  | a :: as, b :: bs, ps, qs, ha, hb, h1, h2 => by
    obtain ⟨p, r, rfl, e1, e2⟩ := toPys_inv h1
    obtain ⟨q, t, rfl, e3, e4⟩ := toPys_inv h2
    have i1 := ih a b p q (ha a (by simp)) (hb b (by simp)) e1 e3
    have i2 := Pl_eqvs ih as bs r t (fun x hx => ha x (List.mem_cons_of_mem _ hx)) (fun x hx => hb x (List.mem_cons_of_mem _ hx)) e2 e4
    rw [PyData.eqvAll, Bool.and_eq_true, i1, i2]
    simp
theorem Pl_eqv : ∀ (n : Nat) (a b : D) (p q : PyData), Pl n a → Pl n b → toPy a = some p → toPy b = some q → (PyData.eqv p q = true ↔ a = b) := by
  intro n
  induction n with
  | zero =>
    intro a b p q ha hb e1 e2
    cases a <;> cases b <;> first
      | exact ha.elim
      | exact hb.elim
      | (first | have e1 := toPy_non e1 | have e1 := toPy_int e1 | have e1 := toPy_str e1
         first | have e2 := toPy_non e2 | have e2 := toPy_int e2 | have e2 := toPy_str e2
         subst e1; subst e2; simp [PyData.eqv])
  | succ n ih =>
    intro a b p q ha hb e1 e2
    cases a <;> cases b <;> first
      | exact ha.elim
      | exact hb.elim
      | (obtain ⟨ps, h1, rfl⟩ := toPy_tup e1
         obtain ⟨qs, h2, rfl⟩ := toPy_tup e2
         rw [PyData.eqv, Pl_eqvs ih _ _ _ _ ha hb h1 h2]; simp)
      | (obtain ⟨ps, h1, rfl⟩ := toPy_lst e1
         obtain ⟨qs, h2, rfl⟩ := toPy_lst e2
         rw [PyData.eqv, Pl_eqvs ih _ _ _ _ ha hb h1 h2]; simp)
      | (first | have e1 := toPy_non e1 | have e1 := toPy_int e1 | have e1 := toPy_str e1 | have e1 := toPy_tup e1 | have e1 := toPy_lst e1
         try obtain ⟨ps, h1, e1⟩ := e1
         first | have e2 := toPy_non e2 | have e2 := toPy_int e2 | have e2 := toPy_str e2 | have e2 := toPy_tup e2 | have e2 := toPy_lst e2
         try obtain ⟨qs, h2, e2⟩ := e2
         subst_vars; simp [PyData.eqv])
theorem eqG_b {n : Nat} (hn : n ≤ 64) {a b : D} (ha : Pl n a) (hb : Pl n b) {x : Bool} (h : x = true ↔ a = b) : eqG a b = some x := by
  obtain ⟨p, h1, h2, h3⟩ := Pl_lay n a ha
  obtain ⟨q, h4, h5, h6⟩ := Pl_lay n b hb
  have hs : SeqAt.shaped p = true ∧ SeqAt.shaped q = true := ⟨by
    unfold SeqAt.shaped; rw [h2, decide_eq_true (by omega)]; rfl, by unfold SeqAt.shaped; rw [h5, decide_eq_true (by omega)]; rfl⟩
  unfold eqG
  rw [h1, h4]
  dsimp only
  rw [cif_pos hs]
  congr 1
  rw [Bool.eq_iff_iff, Pl_eqv n a b p q ha hb h1 h4, h]
class En (α : Type) where
  enc : α → D
  ok : α → Prop
  dep : Nat
  pl : ∀ a, ok a → Pl dep (enc a)
  inj : ∀ a b, enc a = enc b → a = b
theorem map_injD {α : Type} {f : α → D} (h : ∀ a b, f a = f b → a = b) : ∀ {l m : List α}, l.map f = m.map f → l = m
  | [], [], _ => rfl
  | [], _ :: _, e => by cases e
  | _ :: _, [], e => by cases e
  | a :: l, b :: m, e => by
    rw [List.map_cons, List.map_cons] at e
    injection e with e1 e2
    rw [h _ _ e1, map_injD h e2]
theorem eqG_map {α : Type} [DecidableEq α] {f : α → D} {n : Nat} (hn : n + 1 ≤ 64) (h : ∀ a b, f a = f b → a = b) {l m : List α} (hl : ∀ a ∈ l, Pl n (f a)) (hm : ∀ a ∈ m, Pl n (f a)) : eqG (.tup (l.map f)) (.tup (m.map f)) = some (decide (l = m)) := by
  refine eqG_b hn (n := n + 1) ?_ ?_ ?_
  · intro d hd; obtain ⟨a, ha, rfl⟩ := List.mem_map.mp hd; exact hl a ha
  · intro d hd; obtain ⟨a, ha, rfl⟩ := List.mem_map.mp hd; exact hm a ha
  · rw [decide_eq_true_iff]
    exact ⟨fun e => by rw [e], fun e => by injection e with e; exact map_injD h e⟩
abbrev nD (n : Nat) : D := .int (n : Int)
abbrev nsD (l : List Nat) : D := .tup (l.map fun n : Nat => D.int n)
theorem nD_inj (a b : Nat) (h : (fun n : Nat => D.int n) a = (fun n : Nat => D.int n) b) : a = b := by injection h with h; omega
@[simp] theorem eqG_ns {l m : List Nat} : eqG (.tup (l.map fun n : Nat => D.int n)) (.tup (m.map fun n : Nat => D.int n)) = some (decide (l = m)) := eqG_map (n := 0) (by decide) nD_inj (fun _ _ => Pl_int) (fun _ _ => Pl_int)
@[simp] theorem eqG_is {l m : List Int} : eqG (.tup (l.map D.int)) (.tup (m.map D.int)) = some (decide (l = m)) := eqG_map (n := 0) (by decide) (fun a b h => by injection h) (fun _ _ => Pl_int) (fun _ _ => Pl_int)
end VL
set_option Elab.async false
set_option linter.all false
set_option maxRecDepth 100000
set_option maxHeartbeats 4000000
namespace VL
open PySem PySem.Spec PyProof.Rows L2
noncomputable def E_join_1 : ME := (mCB fMax2 (mCons (mOp fIx (mName 0) (mName 2)) (mCons (mOp fIx (mName 1) (mName 2)) mNil)))
noncomputable def F_join : FN := fnM 2 3 [] (mRet [] (mCB fTuple (mCons (mLc [] (mRng (mCons (mCB fLen (mCons (mName 0) mNil)) mNil)) (gmName 2) mYes E_join_1 [2]) mNil)))
variable [CM]
theorem at_ns {l : List Nat} {k : Nat} (h : k < l.length) : atI (l.map fun n : Nat => D.int n) (k : Int) = some (.int ((l[k] : Nat) : Int)) := atI_nat (by rw [List.getElem?_map, List.getElem?_eq_getElem h]; rfl)
theorem map_zip {α β γ : Type} (f : α → β → γ) : ∀ (a : List α) (b : List β), a.length = b.length → ∀ g : Nat → γ, (∀ k (h1 : k < a.length) (h2 : k < b.length), g k = f a[k] b[k]) → (List.range a.length).map g = List.zipWith f a b
  | [], _, _, _, _ => by simp
  | _ :: _, [], h, _, _ => by simp at h
  | x :: a, y :: b, h, g, hg => by
    rw [List.length_cons, List.range_succ_eq_map, List.map_cons, List.map_map, List.zipWith_cons_cons]
    have h0 := hg 0 (by simp) (by simp)
    rw [h0, map_zip f a b (by simpa using h) (g ∘ Nat.succ) fun k h1 h2 => by
      have := hg (k + 1) (by simpa using h1) (by simpa using h2)
      simpa using this]
    rfl
theorem join_eq {one two : List Nat} (h : one.length = two.length) (hz : one.length ≤ 1000) : F_join [.val (nsD one), .val (nsD two)] = .ok (.val (nsD (List.zipWith max one two))) [.val (nsD one), .val (nsD two)] := by
  have h1 : one.length ≤ 16777216 := by omega
  have h2 : one.length < 4611686018427387904 := by omega
  have h3 : two.length ≤ 16777216 := by omega
  simp [F_join, h1, h2]
  rw [comp_map (en := fun k : Nat => D.int k) (f := fun k => D.int ((max (one[k]?.getD 0) (two[k]?.getD 0) : Nat) : Int))]
  · simp [h1]
    rw [map_zip (fun a b => D.int ((max a b : Nat) : Int)) one two h _ fun k a b => by simp [a, b]]
  · intro k hk
    have hk : k < one.length := by simpa using hk
    have hk2 : k < two.length := by omega
    simp [E_join_1, at_ns hk, at_ns hk2, hk, hk2]
    split <;> omega
theorem LevOk.max : ∀ {a b : List Nat} {ms : List Dim}, LevOk a ms → LevOk b ms → LevOk (List.zipWith max a b) ms
  | [], [], [], _, _ => trivial
  | x :: a, y :: b, m :: ms, h, g => ⟨by have := h.1; have := g.1; omega, LevOk.max h.2 g.2⟩
  | [], _ :: _, [], _, h => h.elim
  | _ :: _, _, [], h, _ => h.elim
  | [], _, _ :: _, h, _ => h.elim
  | _ :: _, [], _ :: _, _, h => h.elim
theorem LevOk.min : ∀ {a b : List Nat} {ms : List Dim}, LevOk a ms → LevOk b ms → LevOk (List.zipWith min a b) ms
  | [], [], [], _, _ => trivial
  | x :: a, y :: b, m :: ms, h, g => ⟨by have := h.1; have := g.1; omega, LevOk.min h.2 g.2⟩
  | [], _ :: _, [], _, h => h.elim
  | _ :: _, _, [], h, _ => h.elim
  | [], _, _ :: _, h, _ => h.elim
  | _ :: _, [], _ :: _, _, h => h.elim
end VL
set_option Elab.async false
set_option linter.all false
set_option maxRecDepth 100000
set_option maxHeartbeats 4000000
namespace VL
open PySem PySem.Spec PyProof.Rows L2
variable [CM]
section
variable {α : Type} [BEq α] [LawfulBEq α]
def addNew (acc : List α) (x : α) : List α := if x ∈ acc then acc else acc ++ [x]
def dd (l : List α) : List α := l.foldl addNew []
end
end VL
set_option Elab.async false
set_option linter.all false
set_option maxRecDepth 100000
set_option maxHeartbeats 4000000
namespace RT
open PySem PySem.Spec PyProof.Rows L2
section
variable {prog : Program} {w : World} {A : Around} {E : Value → Shared → Prop} {s : Shared} {R : Result → Shared → Prop}
end
end RT
namespace VL
open PySem PySem.Spec PyProof.Rows L2 RT
variable [CM]
section
variable {K : PySem.W.Frag} {c : VC} {Wx : WX} {X : Cx}
def lrv2 (e : Env) : Option D → R Env W
  | some (.lst ds) => .ok (.tmp (.lst ds.reverse)) e
  | _ => .no
@[simp] theorem lrv2_c1 (e : Env) (ds) : lrv2 e (some (.lst ds)) = .ok (.tmp (.lst ds.reverse)) e := rfl
def lrv1 : R Env W → R Env W
  | .ok w e => lrv2 e (view w e)
  | .ex C fs s => .ex C fs s
  | .no => .no
@[simp] theorem lrv1_c1 (w e) : lrv1 (.ok w e) = lrv2 e (view w e) := rfl
@[simp] theorem lrv1_c2 (C fs s) : lrv1 (.ex C fs s) = .ex C fs s := rfl
@[simp] theorem lrv1_c3 : lrv1 .no = .no := rfl
@[simp] def mLstRev (m : ME) (e : Env) : R Env W := lrv1 (m e)
end
end VL
set_option Elab.async false
set_option linter.all false
set_option maxRecDepth 100000
set_option maxHeartbeats 4000000
namespace VL
open PySem PySem.Spec PyProof.Rows L2
variable [CM]
section
variable {K : PySem.W.Frag} {c : VC} {Wx : WX} {X : Cx}
def compF2 (vg : VG) (vt : VTT) (vi1 : VI) (vg1 : VG) (vt1 : VTT) (ve : VT) (vs vs1 : List Nat) (Q : List D → Env → Prop) : List D → List D → Env → Prop
  | [], acc, env => Q acc env
  | d :: ds, acc, env => vg d env fun env1 => vt env1 (fun b env2 => if b = true then vi1 env2 (fun items env3 => compF vg1 vt1 ve vs1 (fun acc' env4 => compF2 vg vt vi1 vg1 vt1 ve vs vs1 Q ds acc' (wipeE env4 vs)) items acc (wipeE env3 vs1)) noX else compF2 vg vt vi1 vg1 vt1 ve vs vs1 Q ds acc (wipeE env2 vs)) noX
def vLc2 (c : VC) (vi : VI) (vg : VG) (vt : VTT) (vi1 : VI) (vg1 : VG) (vt1 : VTT) (ve : VT) (vs vs1 : List Nat) : VT := fun env Q QX => vi env (fun items env1 => okVs c vs env1 ∧ compF2 vg vt vi1 vg1 vt1 ve vs vs1 (fun acc env2 => Q (.tmp (.lst acc)) (restE env1 env2 vs)) items [] (wipeE env1 vs)) QX
theorem wipe_sub {σ τ : L2.St} {vs vs1 : List Nat} (h : L2.wipe τ vs = L2.wipe σ vs) (hs : ∀ j ∈ vs1, j ∈ vs) : L2.wipe (L2.wipe τ vs1) vs = L2.wipe σ vs := by
  rw [← h]
  exact wipe_eq (wipe_length _ _) fun j hj => wipe_out fun z => hj (hs j z)
theorem sim_lc2 {wi wi1 : TI} {vi vi1 : VI} {g g1 : TG} {vg vg1 : VG} {tt tt1 : TT} {vt vt1 : VTT} {te : TE} {ve : VT} {ss ss1 vs vs1 : List Nat} (hss : ∀ j ∈ ss, j ∈ vs) (hss1 : ∀ j ∈ ss1, j ∈ vs1) (hvs : ∀ j ∈ vs1, j ∈ vs) (hi : SimI K c Wx wi vi) (hg : SimG K c ss g vg) (ht : SimT K c W0 tt vt)
    (hi1 : SimI K c W0 wi1 vi1) (hg1 : SimG K c ss1 g1 vg1) (ht1 : SimT K c W0 tt1 vt1) (he : SimE K c W0 te ve) : SimE K c Wx (tLc2 wi g tt wi1 g1 tt1 te vs vs1) (vLc2 c vi vg vt vi1 vg1 vt1 ve vs vs1) := by
  intro f Hb env σ H Q QX Q' R q px k
  refine hi f Hb env σ H _ QX _ R q px fun items env1 J H1 Hb1 s1 R1 it q1 => ?_
  obtain ⟨hv, q1⟩ := q1
  intro DA nD
  have Rw := (R1.wipe fun v hv' => (hv v hv').1).put (o := .lst []) nD
  let QF : List D → Env → Prop := fun acc env2 => Q (.tmp (.lst acc)) (restE env1 env2 vs)
  let Nx : Nat → Hp → Prop := fun i H' => ∃ env' Hb' acc accV, Same Hb1 Hb' ∧ Rl K c (f.put DA (.lst accV)) Hb' env' (L2.wipe σ vs) H' ∧ RpL K Hb' acc accV ∧ i ≤ items.length ∧ compF2 vg vt vi1 vg1 vt1 ve vs vs1 QF (items.drop i) acc env'
  refine ⟨fun i m H' => m = items.length - i ∧ Nx i H', ⟨items.length, by simp, _, Hb1, [], [], Same.refl _, Rw, .nil, Nat.zero_le _, q1⟩, ?_⟩
  rintro i m H2 ⟨rfl, env2, Hb2, acc, accV, s2, R2, ra, hi2, q2⟩
  by_cases hlt : i < items.length
  · rw [List.drop_eq_getElem_cons hlt] at q2
    refine .inr ⟨it.go i Hb2 H2 s2 R2.sub hlt, fun H' => Nx (i + 1) H', fun H' z => ⟨items.length - (i + 1), by omega, rfl, z⟩, fun x H3 hy => ?_⟩
    obtain ⟨Hb3, x3, r3⟩ := it.yld i _ x Hb2 H2 H3 s2 R2.sub (List.getElem?_eq_getElem hlt) hy
    refine hg _ Hb3 env2 _ H3 _ x _ _ (R2.ext x3) r3 q2 fun env4 σ4 H4 Hb4 s4 R4 n4 q4 => ?_
    have hw : L2.wipe σ4 vs = L2.wipe σ vs := by
      rw [← wipe_wipe (σ := σ)]
      exact wipe_eq n4.1 fun j hj => n4.2 j fun z => hj (hss j z)
    refine ⟨hw, ?_⟩
    refine ht _ Hb4 env4 σ4 H4 _ noX _ R4 q4 px0 fun b env5 H5 Hb5 s5 R5 q5 => ?_
    have ss5 := (x3.b.trans s4).trans s5
    cases b with
    | false =>
      rw [if_neg Bool.false_ne_true] at q5 ⊢
      refine ⟨wipeE env5 vs, Hb5, acc, accV, s2.trans ss5, ?_, ra.mn ss5, hlt, q5⟩
      rw [← hw]
      exact R5.wipe fun v hv' => (hv v hv').1
    | true =>
      rw [if_pos rfl] at q5 ⊢
      refine hi1 _ Hb5 env5 σ4 H5 _ noX _ R5 q5 px0 fun items1 env6 J1 H6 Hb6 s6 R6 it1 q6 => ?_
      have Rv := R6.wipe (vs := vs1) fun v hv' => (hv v (hvs v hv')).1
      have ss6 := ss5.trans s6
      let QI : List D → Env → Prop := fun acc' env4 => compF2 vg vt vi1 vg1 vt1 ve vs vs1 QF (items.drop (i + 1)) acc' (wipeE env4 vs)
      let N1 : Nat → Hp → Prop := fun j H' => ∃ env' Hb' acc accV, Same Hb6 Hb' ∧ Rl K c (f.put DA (.lst accV)) Hb' env' (L2.wipe σ4 vs1) H' ∧ RpL K Hb' acc accV ∧ j ≤ items1.length ∧ compF vg1 vt1 ve vs1 QI (items1.drop j) acc env'
      refine ⟨fun j k H' => k = items1.length - j ∧ N1 j H', ⟨items1.length, by simp, _, Hb6, acc, accV, Same.refl _, Rv, ra.mn ss6, Nat.zero_le _, q6⟩, ?_⟩
      rintro j m1 H7 ⟨rfl, env7, Hb7, acc7, accV7, s7, R7, ra7, hj7, q7⟩
      by_cases hlt1 : j < items1.length
      · rw [List.drop_eq_getElem_cons hlt1] at q7
        refine .inr ⟨it1.go j Hb7 H7 s7 R7.sub hlt1, fun H' => N1 (j + 1) H', fun H' z => ⟨items1.length - (j + 1), by omega, rfl, z⟩, fun y H8 hy1 => ?_⟩
        obtain ⟨Hb8, x8, r8⟩ := it1.yld j _ y Hb7 H7 H8 s7 R7.sub (List.getElem?_eq_getElem hlt1) hy1
        refine hg1 _ Hb8 env7 _ H8 _ y _ _ (R7.ext x8) r8 q7 fun env9 σ9 H9 Hb9 s9 R9 n9 q9 => ?_
        have hw1 : L2.wipe σ9 vs1 = L2.wipe σ4 vs1 := by
          rw [← wipe_wipe (σ := σ4)]
          exact wipe_eq n9.1 fun j hj => n9.2 j fun z => hj (hss1 j z)
        refine ⟨hw1, ?_⟩
        refine ht1 _ Hb9 env9 σ9 H9 _ noX _ R9 q9 px0 fun b envA HA HbA sA RA qA => ?_
        cases b with
        | true =>
          rw [if_pos rfl] at qA ⊢
          refine he _ HbA envA σ9 HA _ noX _ RA qA px0 fun w envB vB HB HbB sB RB rB qB => ?_
          obtain ⟨d', envC, HbC, sC, RC, rC, hz, qC⟩ := RB.fz rB qB
          obtain ⟨hD, _⟩ := RC.atD
          have ssC := ((((x8.b.trans s9).trans sA).trans sB).trans sC)
          refine ⟨accV7, hD, by rw [ra7.length]; exact hz, wipeE envC vs1, HbC, acc7 ++ [d'], accV7 ++ [vB], s7.trans ssC, ?_, (ra7.mn ssC).app (.one rC), hlt1, qC⟩
          rw [← hw1]
          exact (RC.wipe fun v hv' => (hv v (hvs v hv')).1).reput
        | false =>
          rw [if_neg Bool.false_ne_true] at qA ⊢
          have ssA := ((x8.b.trans s9).trans sA)
          refine ⟨wipeE envA vs1, HbA, acc7, accV7, s7.trans ssA, ?_, ra7.mn ssA, hlt1, qA⟩
          rw [← hw1]
          exact RA.wipe fun v hv' => (hv v (hvs v hv')).1
      · have hj3 : j = items1.length := by omega
        rw [hj3, List.drop_length] at q7
        refine .inl ⟨it1.stop j Hb7 H7 s7 R7.sub (by omega), ?_⟩
        have q7 : QI acc7 env7 := q7
        have Rz := R7.wipe (vs := vs) fun v hv' => (hv v hv').1
        rw [wipe_sub hw hvs] at Rz
        exact ⟨wipeE env7 vs, Hb7, acc7, accV7, (s2.trans ss6).trans s7, Rz, ra7, hlt, q7⟩
  · have hi3 : i = items.length := by omega
    rw [hi3, List.drop_length] at q2
    refine .inl ⟨it.stop i Hb2 H2 s2 R2.sub (by omega), ?_⟩
    have q2 : Q (.tmp (.lst acc)) (restE env1 env2 vs) := q2
    obtain ⟨hD, hbD⟩ := R2.atD
    have fD : f.Fr DA = none := R1.frm.free nD
    have R3 := R2.unput fD
    have ownD : ∀ {j : Nat} {oc : OC}, (restE env1 env2 vs)[j]? = some (some (.own oc)) → j ∉ vs ∧ env2[j]? = some (some (.own oc)) := fun {j oc} e => by
      rcases restE_get _ _ _ _ _ e with ⟨h1, h2⟩ | h
      · exact ((hv j h1).2 oc h2).elim
      · exact h
    have R4 : Rl K c f Hb2 (restE env1 env2 vs) σ H2 := by
      refine ⟨by rw [restE_len, ← R3.len, wipe_length], fun {j d} e => ?_, fun {j oc} e => ?_, fun {i j o1 o2 b} e1 e2 e3 e4 => ?_, R3.sub, R3.frm, R3.frb, R3.tab, R1.fix, R3.xv⟩
      · rcases restE_get _ _ _ _ _ e with ⟨h1, h2⟩ | ⟨h1, h2⟩
        · obtain ⟨v, h3, h4⟩ := R1.val h2
          exact ⟨v, h3, h4.mn s2⟩
        · obtain ⟨v, h3, h4⟩ := R3.val h2
          rw [wipe_out h1] at h3
          exact ⟨v, h3, h4⟩
      · obtain ⟨h1, h2⟩ := ownD e
        obtain ⟨a, h3, h4⟩ := R3.own h2
        rw [wipe_out h1] at h3
        exact ⟨a, h3, h4⟩
      · obtain ⟨h1, h2⟩ := ownD e1
        obtain ⟨h3, h4⟩ := ownD e2
        exact R3.inj h2 h4 (by rw [wipe_out h1]; exact e3) (by rw [wipe_out h3]; exact e4)
    refine k (.tmp (.lst acc)) _ _ _ _ (s1.trans s2) R4 ⟨DA, rfl, hbD, fD, ⟨accV, hD, ra⟩, fun j oc e z => ?_⟩ q2
    obtain ⟨h1, h2⟩ := ownD e
    obtain ⟨a, h3, _, h5, _⟩ := R2.own h2
    rw [wipe_out h1, z] at h3
    cases h3
    have h5 : upd f.Fr DA (.lst accV) DA = none := h5
    rw [upd_same] at h5; cases h5
def t2c (vs : List Nat) : R Env (List D) → R Env (List D)
  | .ok ds e => .ok ds (wipeE e vs)
  | .ex C fs s => .ex C fs s
  | .no => .no
@[simp] theorem t2c_1 (vs : List Nat) (ds e) : t2c vs (.ok ds e) = .ok ds (wipeE e vs) := rfl
def t2b (g1 : GM) (t1 : MT) (el : ME) (vs vs1 : List Nat) : R Env (List D) → R Env (List D)
  | .ok items e => t2c vs (compM g1 t1 el vs1 items (wipeE e vs1))
  | .ex C fs s => .ex C fs s
  | .no => .no
@[simp] theorem t2b_1 (g1 : GM) (t1 : MT) (el : ME) (vs vs1 : List Nat) (items e) : t2b g1 t1 el vs vs1 (.ok items e) = t2c vs (compM g1 t1 el vs1 items (wipeE e vs1)) := rfl
def t2a (it1 : MI) (g1 : GM) (t1 : MT) (el : ME) (vs vs1 : List Nat) : R Env Bool → R Env (List D)
  | .ok true e => t2b g1 t1 el vs vs1 (it1 e)
  | .ok false e => .ok [] (wipeE e vs)
  | .ex C fs s => .ex C fs s
  | .no => .no
@[simp] theorem t2a_1 (it1 : MI) (g1 : GM) (t1 : MT) (el : ME) (vs vs1 : List Nat) (e) : t2a it1 g1 t1 el vs vs1 (.ok true e) = t2b g1 t1 el vs vs1 (it1 e) := rfl
@[simp] theorem t2a_2 (it1 : MI) (g1 : GM) (t1 : MT) (el : ME) (vs vs1 : List Nat) (e) : t2a it1 g1 t1 el vs vs1 (.ok false e) = .ok [] (wipeE e vs) := rfl
def t2g (t : MT) (it1 : MI) (g1 : GM) (t1 : MT) (el : ME) (vs vs1 : List Nat) : Option Env → R Env (List D)
  | some e => t2a it1 g1 t1 el vs vs1 (t e)
  | none => .no
@[simp] theorem t2g_1 (t : MT) (it1 : MI) (g1 : GM) (t1 : MT) (el : ME) (vs vs1 : List Nat) (e) : t2g t it1 g1 t1 el vs vs1 (some e) = t2a it1 g1 t1 el vs vs1 (t e) := rfl
@[simp] def turnC2 (g : GM) (t : MT) (it1 : MI) (g1 : GM) (t1 : MT) (el : ME) (vs vs1 : List Nat) (d : D) (e : Env) : R Env (List D) := t2g t it1 g1 t1 el vs vs1 (g d e)
def comp2M (g : GM) (t : MT) (it1 : MI) (g1 : GM) (t1 : MT) (el : ME) (vs vs1 : List Nat) : List D → Env → R Env (List D)
  | [], e => .ok [] e
  | d :: ds, e => sq (comp2M g t it1 g1 t1 el vs vs1 ds) (· ++ ·) (turnC2 g t it1 g1 t1 el vs vs1 d e)
noncomputable def lc12 (fx : List Nat) (g : GM) (t : MT) (it1 : MI) (g1 : GM) (t1 : MT) (el : ME) (vs vs1 : List Nat) : R Env (List D) → R Env W
  | .ok ds e => lc2 e vs (comp2M g t it1 g1 t1 el vs vs1 ds (wipeE e vs)) (okE fx vs e)
  | .ex C fs s => .ex C fs s
  | .no => .no
@[simp] theorem lc12_1 (fx : List Nat) (g : GM) (t : MT) (it1 : MI) (g1 : GM) (t1 : MT) (el : ME) (vs vs1 : List Nat) (ds e) : lc12 fx g t it1 g1 t1 el vs vs1 (.ok ds e) = lc2 e vs (comp2M g t it1 g1 t1 el vs vs1 ds (wipeE e vs)) (okE fx vs e) := rfl
@[simp] noncomputable def mLc2 (fx : List Nat) (it : MI) (g : GM) (t : MT) (it1 : MI) (g1 : GM) (t1 : MT) (el : ME) (vs vs1 : List Nat) (e : Env) : R Env W := lc12 fx g t it1 g1 t1 el vs vs1 (it e)
theorem po_comp2 {g g1 : GM} {t t1 : MT} {it1 : MI} {el : ME} {vs vs1 : List Nat} {Q : List D → Env → Prop} : ∀ {ds : List D} {e : Env} {acc : List D}, (comp2M g t it1 g1 t1 el vs vs1 ds e).po (fun r e2 => acc.length + r.length ≤ sizeLine ∧ Q (acc ++ r) e2) noX → compF2 (vGm g) (vR t) (vR it1) (vGm g1) (vR t1) (vR el) vs vs1 Q ds acc e
  | [], e, acc, h => by
    have h : acc.length + 0 ≤ sizeLine ∧ Q (acc ++ []) e := h
    rw [List.append_nil] at h
    exact h.2
  | d :: ds, e, acc, h => by
    have h : (sq (comp2M g t it1 g1 t1 el vs vs1 ds) (· ++ ·) (t2g t it1 g1 t1 el vs vs1 (g d e))).po (fun r e2 => acc.length + r.length ≤ sizeLine ∧ Q (acc ++ r) e2) noX := h
    show poO _ (g d e)
    cases hA : g d e with
    | none => rw [hA] at h; exact h
    | some e1 =>
      rw [hA] at h
      have h : (sq (comp2M g t it1 g1 t1 el vs vs1 ds) (· ++ ·) (t2a it1 g1 t1 el vs vs1 (t e1))).po (fun r e2 => acc.length + r.length ≤ sizeLine ∧ Q (acc ++ r) e2) noX := h
      show (t e1).po _ noX
      cases hB : t e1 with
      | ex C fs s => rw [hB] at h; exact h
      | no => rw [hB] at h; exact h
      | ok b e2 =>
        rw [hB] at h
        cases b with
        | false =>
          have h := po_mp (g := fun r => ([] : List D) ++ r) (r := comp2M g t it1 g1 t1 el vs vs1 ds (wipeE e2 vs)) h
          exact po_comp2 (po_mono h fun r e3 hr => by simpa using hr)
        | true =>
          have h : (sq (comp2M g t it1 g1 t1 el vs vs1 ds) (· ++ ·) (t2b g1 t1 el vs vs1 (it1 e2))).po (fun r e2 => acc.length + r.length ≤ sizeLine ∧ Q (acc ++ r) e2) noX := h
          show (it1 e2).po _ noX
          cases hC : it1 e2 with
          | ex C fs s => rw [hC] at h; exact h
          | no => rw [hC] at h; exact h
          | ok items e3 =>
            rw [hC] at h
            have h : (sq (comp2M g t it1 g1 t1 el vs vs1 ds) (· ++ ·) (t2c vs (compM g1 t1 el vs1 items (wipeE e3 vs1)))).po (fun r e2 => acc.length + r.length ≤ sizeLine ∧ Q (acc ++ r) e2) noX := h
            refine po_comp (QX := noX) ?_
            cases hD : compM g1 t1 el vs1 items (wipeE e3 vs1) with
            | ex C fs s => rw [hD] at h; exact h
            | no => rw [hD] at h; exact h
            | ok r e4 =>
              rw [hD] at h
              have h := po_mp (g := fun r' => r ++ r') (r := comp2M g t it1 g1 t1 el vs vs1 ds (wipeE e4 vs)) h
              refine ⟨?_, po_comp2 (po_mono h fun r' e5 hr => ⟨by have := hr.1; simp only [List.length_append] at this ⊢; omega, by rw [List.append_assoc]; exact hr.2⟩)⟩
              cases hE : comp2M g t it1 g1 t1 el vs vs1 ds (wipeE e4 vs) with
              | ex C fs s => rw [hE] at h; exact False.elim h
              | no => rw [hE] at h; exact False.elim h
              | ok r' e5 =>
                rw [hE] at h
                have h1 : acc.length + (r ++ r').length ≤ sizeLine := h.1
                simp only [List.length_append] at h1
                omega
theorem po_lc2 {it it1 : MI} {g g1 : GM} {t t1 : MT} {el : ME} {vs vs1 : List Nat} {env : Env} {Q : VQ} {QX : VX} (h : vR (mLc2 c.fx it g t it1 g1 t1 el vs vs1) env Q QX) : vLc2 c (vR it) (vGm g) (vR t) (vR it1) (vGm g1) (vR t1) (vR el) vs vs1 env Q QX := by
  have h : (lc12 c.fx g t it1 g1 t1 el vs vs1 (it env)).po Q QX := h
  show (it env).po _ QX
  cases hA : it env with
  | ex C fs s => rw [hA] at h; exact h
  | no => rw [hA] at h; exact h
  | ok ds e =>
    rw [hA] at h
    have h : (lc2 e vs (comp2M g t it1 g1 t1 el vs vs1 ds (wipeE e vs)) (okE c.fx vs e)).po Q QX := h
    cases hK : okE c.fx vs e with
    | false => rw [hK] at h; exact h.elim
    | true =>
      rw [hK] at h
      have h : (lc3 e vs (comp2M g t it1 g1 t1 el vs vs1 ds (wipeE e vs))).po Q QX := h
      refine ⟨okE_of hK, po_comp2 ?_⟩
      cases hC : comp2M g t it1 g1 t1 el vs vs1 ds (wipeE e vs) with
      | ex C fs s => rw [hC] at h; exact h.elim
      | no => rw [hC] at h; exact h.elim
      | ok r e2 =>
        rw [hC] at h
        have h : (opR (restE e e2 vs) (lim r.length (.tmp (.lst r)))).po Q QX := h
        cases h1 : lim r.length (W.tmp (.lst r)) with
        | none => rw [h1] at h; exact h.elim
        | some w =>
          rw [h1] at h
          obtain ⟨h2, rfl⟩ := lim_some h1
          exact ⟨by simpa using h2, h⟩
structure FBlk2 (X : Cx) (c : VC) (scope : Scope) (own : List (Str × Nat)) (ss ss1 vs1 : List Nat) (tg elt : Expr) (ifs : List Expr) (tg1 iter1 : Expr) (ifs1 : List Expr) (g : TG) (mg : GM) (tt : TT) (mt : MT) (wi1 : TI) (mi1 : MI) (g1 : TG) (mg1 : GM) (tt1 : TT) (mt1 : MT) (te : TE) (me : ME) : Prop where
  ok : BlkOk X.N X.env.scope scope own
  sub : ∀ j ∈ ss, j ∈ own.map (·.2)
  sub1 : ∀ j ∈ ss1, j ∈ vs1
  sub2 : ∀ j ∈ vs1, j ∈ own.map (·.2)
  g : ∀ (s : Shared) (H : Hp) (C : Addr) (cl : List (Str × Addr)) (fp : List Addr), VGt (X.blk s H scope (compEnvC scope cl C X.env) fp) c ss tg g (vGm mg)
  t : ∀ (s : Shared) (H : Hp) (C : Addr) (cl : List (Str × Addr)) (fp : List Addr), VTs (X.blk s H scope (compEnvC scope cl C X.env) fp) c W0 ifs tt (vR mt)
  i1 : ∀ (s : Shared) (H : Hp) (C : Addr) (cl : List (Str × Addr)) (fp : List Addr), VIt (X.blk s H scope (compEnvC scope cl C X.env) fp) c W0 tg1 iter1 wi1 (vR mi1)
  g1 : ∀ (s : Shared) (H : Hp) (C : Addr) (cl : List (Str × Addr)) (fp : List Addr), VGt (X.blk s H scope (compEnvC scope cl C X.env) fp) c ss1 tg1 g1 (vGm mg1)
  t1 : ∀ (s : Shared) (H : Hp) (C : Addr) (cl : List (Str × Addr)) (fp : List Addr), VTs (X.blk s H scope (compEnvC scope cl C X.env) fp) c W0 ifs1 tt1 (vR mt1)
  e : ∀ (s : Shared) (H : Hp) (C : Addr) (cl : List (Str × Addr)) (fp : List Addr), VE (X.blk s H scope (compEnvC scope cl C X.env) fp) c W0 elt te (vR me)
section
variable {scope : Scope} {own : List (Str × Nat)} {ss ss1 vs vs1 : List Nat} {tg elt iter tg1 iter1 : Expr} {ifs ifs1 : List Expr} {g g1 : TG} {vg vg1 : GM} {tt tt1 : TT} {vt vt1 : MT} {te : TE} {ve : ME} {wi wi1 : TI} {vi vi1 : MI} {pos : Pos}
theorem FBlk2.sim (B : FBlk2 X c scope own ss ss1 vs1 tg elt ifs tg1 iter1 ifs1 g vg tt vt wi1 vi1 g1 vg1 tt1 vt1 te ve) (hi : FI X c Wx tg iter wi vi) :
    SimE X.K c Wx (tLc2 wi g tt wi1 g1 tt1 te (own.map (·.2)) vs1) (vR (mLc2 c.fx vi vg vt vi1 vg1 vt1 ve (own.map (·.2)) vs1)) := fun f Hb env σ H Q QX Q' R q px k =>
  sim_lc2 B.sub B.sub1 B.sub2 hi.sim (B.g {} (fun _ => none) 0 [] []).sim (B.t {} (fun _ => none) 0 [] []).sim (B.i1 {} (fun _ => none) 0 [] []).sim (B.g1 {} (fun _ => none) 0 [] []).sim (B.t1 {} (fun _ => none) 0 [] []).sim (B.e {} (fun _ => none) 0 [] []).sim f Hb env σ H Q QX Q' R (po_lc2 q) px k
end
theorem VIt.re {tg e : Expr} {te te' : TI} {t : VI} (h : VIt X c Wx tg e te t) (q : te = te') : VIt X c Wx tg e te' t := q ▸ h
end
end VL
set_option Elab.async false
set_option linter.all false
set_option maxRecDepth 100000
set_option maxHeartbeats 4000000
namespace VL
open PySem PySem.Spec PyProof.Rows L2
variable [CM]
end VL
set_option Elab.async false
set_option linter.all false
set_option maxRecDepth 100000
set_option maxHeartbeats 4000000
namespace VL
open PySem PySem.Spec PyProof.Rows L2
variable [CM]
theorem rng_at {n : Nat} {pre post : List Nat} {x : Nat} (e : List.range n = pre ++ x :: post) : x = pre.length ∧ x < n := by
  have h1 : (List.range n)[pre.length]? = some x := by rw [e]; simp
  have h2 : pre.length < n := by
    have := congrArg List.length e
    simp at this; omega
  rw [List.getElem?_range h2] at h1
  cases h1
  exact ⟨rfl, h2⟩
end VL
set_option Elab.async false
set_option linter.all false
set_option maxRecDepth 100000
set_option maxHeartbeats 4000000
namespace VL
open PySem PySem.Spec PyProof.Rows L2
variable [CM]
end VL
set_option Elab.async false
set_option linter.all false
set_option maxRecDepth 100000
set_option maxHeartbeats 4000000
namespace VL
open PySem PySem.Spec PyProof.Rows L2
variable [CM]
def lt (m : Dim) : List (List Nat) := m.ls.map pathT
abbrev txD (q : List (List Nat)) : D := .tup (q.map dT)
end VL
set_option Elab.async false
set_option linter.all false
set_option maxRecDepth 100000
set_option maxHeartbeats 4000000
namespace VL
open PySem PySem.Spec PyProof.Rows L2
variable [CM]
section
variable {K : PySem.W.Frag} {c : VC} {Wx : WX} {X : Cx}
@[simp] theorem isXb_self (C : Str) : isXb C C = true := by unfold isXb; exact @decide_eq_true _ (_) (.inl rfl)
@[simp] theorem isXb_top (C : Str) : isXb C (Str.ofString "CubeError") = true := by unfold isXb; exact @decide_eq_true _ (_) (.inr rfl)
@[simp] def mIsE (b : Bool) (e : Env) : R Env W := .ok (.val (.bl b)) e
def endX (i : Nat) : SR → SR
  | .nx e => .nx (e.set i none)
  | .bk e => .bk (e.set i none)
  | .ct e => .ct (e.set i none)
  | .rt w e => .rt w e
  | _ => .no
@[simp] theorem endX_1 (i : Nat) (e) : endX i (.nx e) = .nx (e.set i none) := rfl
@[simp] theorem endX_2 (i : Nat) (e) : endX i (.bk e) = .bk (e.set i none) := rfl
@[simp] theorem endX_3 (i : Nat) (e) : endX i (.ct e) = .ct (e.set i none) := rfl
@[simp] theorem endX_4 (i : Nat) (w e) : endX i (.rt w e) = .rt w e := rfl
noncomputable def catX (i : Nat) (Y : Str) (suite : Str → MS) (C : Str) (fs : List (Str × D)) (e : Env) : SR :=
  cif (isXb C Y = true) (cif (fs = [] ∧ i < e.length) (endX i (suite C (e.set i none))) .no) (.ex C fs e)
@[simp] theorem catX_1 (i : Nat) (suite : Str → MS) (C : Str) (e : Env) (h : i < e.length) : catX i (Str.ofString "CubeError") suite C [] e = endX i (suite C (e.set i none)) := by
  unfold catX
  rw [cif_pos (isXb_top C), cif_pos ⟨rfl, h⟩]
noncomputable def tryS (i : Nat) (Y : Str) (suite : Str → MS) : SR → SR
  | .ex C fs e => catX i Y suite C fs e
  | r => r
@[simp] theorem tryS_1 (i : Nat) (Y : Str) (suite : Str → MS) (C fs e) : tryS i Y suite (.ex C fs e) = catX i Y suite C fs e := rfl
@[simp] theorem tryS_2 (i : Nat) (Y : Str) (suite : Str → MS) (e) : tryS i Y suite (.nx e) = .nx e := rfl
@[simp] theorem tryS_3 (i : Nat) (Y : Str) (suite : Str → MS) (w e) : tryS i Y suite (.rt w e) = .rt w e := rfl
@[simp] theorem tryS_4 (i : Nat) (Y : Str) (suite : Str → MS) (e) : tryS i Y suite (.bk e) = .bk e := rfl
@[simp] theorem tryS_5 (i : Nat) (Y : Str) (suite : Str → MS) (e) : tryS i Y suite (.ct e) = .ct e := rfl
@[simp] noncomputable def mTry (i : Nat) (Y : Str) (body : MS) (suite : Str → MS) (e : Env) : SR := tryS i Y suite (body e)
theorem Rl.into {f : Fm} {Hb H : Hp} {env : Env} {σ : L2.St} {i : Nat} {a : Addr} (R : Rl K c f Hb env σ H) (hi : i ∉ c.fx) (hx : c.xc = []) (hl : i < env.length) {l : List (Addr × List (Str × V))} (hd : ∀ q ∈ l, Hb q.1 = some (.xd q.2)) :
    Rl K ⟨c.T, i :: c.fx, [(i, a, l)]⟩ { f with fv := fun j => if j = i then .ref a else f.fv j } Hb (env.set i none) (σ.set i (some (.ref a))) H := by
  have hl2 : i < σ.length := by rw [R.len]; exact hl
  refine ⟨by simp [R.len], fun {j d} e => ?_, fun {j oc} e => ?_, fun {j k o1 o2 b} e1 e2 e3 e4 => ?_, R.sub, R.frm, R.frb, R.tab, fun j hj => ?_, fun p hp => ?_⟩
  · have hne : i ≠ j := by rintro rfl; rw [List.getElem?_set_self hl] at e; cases e
    rw [List.getElem?_set_ne hne] at e ⊢
    exact R.val e
  · have hne : i ≠ j := by rintro rfl; rw [List.getElem?_set_self hl] at e; cases e
    rw [List.getElem?_set_ne hne] at e ⊢
    exact R.own e
  · have h1 : i ≠ j := by rintro rfl; rw [List.getElem?_set_self hl] at e1; cases e1
    have h2 : i ≠ k := by rintro rfl; rw [List.getElem?_set_self hl] at e2; cases e2
    rw [List.getElem?_set_ne h1] at e1 e3
    rw [List.getElem?_set_ne h2] at e2 e4
    exact R.inj e1 e2 e3 e4
  · rcases List.mem_cons.mp hj with rfl | hj
    · rw [List.getElem?_set_self hl2]
      show _ = some (some (if j = j then V.ref a else f.fv j))
      rw [if_pos rfl]
    · have hne : i ≠ j := fun z => hi (z ▸ hj)
      rw [List.getElem?_set_ne hne]
      show _ = some (some (if j = i then V.ref a else f.fv j))
      rw [if_neg (fun z => hne z.symm)]
      exact R.fix j hj
  · have : p = (i, a, l) := by simpa using hp
    subst this
    refine ⟨?_, hd⟩
    show (if i = i then V.ref a else f.fv i) = _
    rw [if_pos rfl]
theorem Rl.outof {f : Fm} {Hb H : Hp} {env : Env} {σ : L2.St} {i : Nat} {a : Addr} {l : List (Addr × List (Str × V))} (hi : i ∉ c.fx) (hx : c.xc = []) (R : Rl K ⟨c.T, i :: c.fx, [(i, a, l)]⟩ { f with fv := fun j => if j = i then .ref a else f.fv j } Hb env σ H) : Rl K c f Hb env σ H := by
  refine ⟨R.len, R.val, R.own, R.inj, R.sub, R.frm, R.frb, R.tab, fun j hj => ?_, fun p hp => by rw [hx] at hp; cases hp⟩
  have h := R.fix j (List.mem_cons_of_mem _ hj)
  have hne : ¬ j = i := fun z => hi (z ▸ hj)
  have h : σ[j]? = some (some (if j = i then V.ref a else f.fv j)) := h
  rw [if_neg hne] at h
  exact h
theorem Rl.gone {f : Fm} {Hb H : Hp} {env : Env} {σ : L2.St} {i : Nat} (R : Rl K c f Hb env σ H) (hi : i ∉ c.fx) : Rl K c f Hb (env.set i none) (σ.set i none) H := by
  have h : Rl K c f Hb (wipeE env [i]) (L2.wipe σ [i]) H := R.wipe fun v hv => by
    have : v = i := by simpa using hv
    rw [this]; exact hi
  exact h
end
end VL
namespace VL
open PySem PySem.Spec PyProof.Rows L2
variable [CM]
theorem xs_ok {K : PySem.W.Frag} {aC aY : Addr} {C Y : Str} {b : Bool} (e : CM.at_ Y = aY) (hB : PySem.W.subIn K (.ref aY) (.type "BaseException") = some true) (hI : PySem.W.isClsIn K aY = true) (hT : PySem.W.typeIn K (.ref aY) = some (.type "type"))
    (hs : PySem.W.subIn K (.ref aC) (.ref aY) = some b) (hn : b = true ∨ ((Value.ref aC == Value.ref aY) = false)) (hb : isXb C Y = b) :
    PySem.W.exmOne K (.ref aC) (.ref (CM.at_ Y)) = some (isXb C Y) ∧ PySem.W.kitOne K (.ref aC) (.ref (CM.at_ Y)) = some (isXb C Y) := by
  rw [e, hb]
  have e1 : (PySem.W.subIn K (.ref aY) (.type "BaseException") == some true) = true := by rw [hB] <;> rfl
  have e2 : ((PySem.W.clsIn K aY).isSome && PySem.W.typeIn K (.ref aY) == some (.type "type")) = true := by
    have h2' : (PySem.W.clsIn K aY).isSome = true := hI
    rw [h2', hT] <;> rfl
  have e3 : PySem.W.kitCls K (.ref aC) (.ref aY) = some b := by
    show (if ((PySem.W.clsIn K aY).isSome && PySem.W.typeIn K (.ref aY) == some (.type "type")) = true then PySem.W.subIn K (.ref aC) (.ref aY) else none) = some b
    rw [if_pos e2]; exact hs
  refine ⟨?_, ?_⟩
  · unfold PySem.W.exmOne
    rw [if_pos e1]; exact e3
  · unfold PySem.W.kitOne
    rcases hn with rfl | hn
    · split
      · rfl
      · exact e3
    · rw [hn]; exact e3
theorem xs_nil {p : Str → Prop} : ∀ Y ∈ ([] : List Str), p Y := fun _ h => by cases h
theorem xs_cons {p : Str → Prop} {a : Str} {l : List Str} (h : p a) (g : ∀ Y ∈ l, p Y) : ∀ Y ∈ a :: l, p Y := fun Y hY => by
  rcases List.mem_cons.mp hY with rfl | h1
  · exact h
  · exact g Y h1
theorem at_glb {mg : Str → Option Value} {Y : Str} {aY : Addr} (e : CM.at_ Y = aY) (g : mg Y = some (.ref aY)) : mg Y = some (.ref (CM.at_ Y)) := by rw [e]; exact g
end VL
set_option Elab.async false
set_option linter.all false
set_option maxRecDepth 100000
set_option maxHeartbeats 4000000
namespace VL
open PySem PySem.Spec PyProof.Rows L2
variable [CM]
theorem loop_refG {ι : Type} {g : GM} {b : MS} (mk : List ι → Env) (ok : ι → Prop) (P : SR → Prop) (hP : ∀ r f, P r → trn f r = r) (en : ι → D) (xs : List ι) (h : ∀ pre x post, xs = pre ++ x :: post → (ok x → turnM g b (en x) (mk pre) = .nx (mk (pre ++ [x]))) ∧ (¬ ok x → P (turnM g b (en x) (mk pre)))) :
    ((∀ x ∈ xs, ok x) → loopM g b (xs.map en) (mk []) = .nx (mk xs)) ∧ ((¬ ∀ x ∈ xs, ok x) → P (loopM g b (xs.map en) (mk []))) := by
  have key : ∀ post pre, xs = pre ++ post → ((∀ x ∈ post, ok x) → loopM g b (post.map en) (mk pre) = .nx (mk xs)) ∧ ((¬ ∀ x ∈ post, ok x) → P (loopM g b (post.map en) (mk pre))) := by
    intro post
    induction post with
    | nil => intro pre e; rw [e, List.append_nil]; exact ⟨fun _ => rfl, fun h => absurd (fun x hx => by cases hx) h⟩
    | cons x post ih =>
      intro pre e
      obtain ⟨h1, h2⟩ := h pre x post e
      obtain ⟨i1, i2⟩ := ih (pre ++ [x]) (by rw [e]; simp)
      refine ⟨fun ho => ?_, fun hn => ?_⟩
      · rw [List.map_cons, loop_cons, h1 (ho x (List.mem_cons_self ..))]
        exact i1 fun y hy => ho y (List.mem_cons_of_mem _ hy)
      · rw [List.map_cons, loop_cons]
        by_cases hx : ok x
        · rw [h1 hx]
          refine i2 fun z => hn fun y hy => ?_
          rcases List.mem_cons.mp hy with rfl | hy
          · exact hx
          · exact z y hy
        · rw [hP _ _ (h2 hx)]; exact h2 hx
  exact key xs [] rfl
theorem spl_len (S : List Nat) : ∀ (l : List Nat) (k : Nat) (acc : List Nat), (TL.spl S k acc l).length ≤ l.length + 1
  | [], k, acc => by rw [TL.spl_nil]; simp
  | c :: r, 0, acc => by
    have h : TL.spl S 0 acc (c :: r) = if TL.pre S (c :: r) = true then acc :: TL.spl S (S.length - 1) [] r else TL.spl S 0 (acc ++ [c]) r := by rw [TL.spl]
    rw [h]
    split
    · have := spl_len S r (S.length - 1) []
      simp; omega
    · have := spl_len S r 0 (acc ++ [c])
      simp; omega
  | c :: r, k + 1, acc => by
    have h : TL.spl S (k + 1) acc (c :: r) = TL.spl S k acc r := by rw [TL.spl]
    rw [h]
    have := spl_len S r k acc
    simp; omega
def wordsT (t : List Nat) : List (List Nat) := if t = [] then [] else TL.spl [47] 0 [] t
def lvT (t : List Nat) : Nat := (wordsT t).length
theorem lvT_le (t : List Nat) : lvT t ≤ t.length + 1 := by
  unfold lvT wordsT
  split
  · simp
  · exact spl_len _ _ _ _
theorem split_tx (t : List Nat) : Txt.split (tx t) (tx [47]) = (TL.spl [47] 0 [] t).map tx := SX.split_S (a := t) (b := [47]) (by simp) (by decide)
theorem path_wordsT {t : List Nat} (hl : t.length ≤ 1000000) : F_path_words [.val (dT t)] = .ok (.val (.tup ((wordsT t).map dT))) [.val (dT t)] := by
  have h1 : t.length ≤ 16777214 := by omega
  have h2 := spl_len [47] t 0 []
  have h3 : (TL.spl [47] 0 [] t).length ≤ 16777216 := by omega
  by_cases h : t = []
  · simp [F_path_words, nil_tx, h, wordsT]
  · simp [F_path_words, nil_tx, h, wordsT, slash_tx, h1, split_tx, h3]
def okTL (q : List (List Nat)) : Prop := ∀ t ∈ q, t.length ≤ 1000000
end VL
set_option Elab.async false
set_option linter.all false
set_option maxRecDepth 100000
set_option maxHeartbeats 4000000
namespace VL
open PySem PySem.Spec PyProof.Rows L2
variable [CM]
section
variable {K : PySem.W.Frag} {c : VC} {Wx : WX} {X : Cx}
def endO : SR → SR
  | .ex _ _ _ => .no
  | r => r
@[simp] theorem endO_1 (e) : endO (.nx e) = .nx e := rfl
@[simp] theorem endO_2 (e) : endO (.bk e) = .bk e := rfl
@[simp] theorem endO_3 (e) : endO (.ct e) = .ct e := rfl
@[simp] theorem endO_4 (w e) : endO (.rt w e) = .rt w e := rfl
noncomputable def catO (Y : Str) (suite : MS) (C : Str) (fs : List (Str × D)) (e : Env) : SR :=
  cif (isXb C Y = true) (cif (fs = []) (endO (suite e)) .no) (.ex C fs e)
@[simp] theorem catO_1 (Y : Str) (suite : MS) (e : Env) : catO Y suite Y [] e = endO (suite e) := by
  unfold catO
  rw [cif_pos (isXb_self Y), cif_pos rfl]
noncomputable def tryO (Y : Str) (suite : MS) : SR → SR
  | .ex C fs e => catO Y suite C fs e
  | r => r
@[simp] theorem tryO_1 (Y : Str) (suite : MS) (C fs e) : tryO Y suite (.ex C fs e) = catO Y suite C fs e := rfl
@[simp] theorem tryO_2 (Y : Str) (suite : MS) (e) : tryO Y suite (.nx e) = .nx e := rfl
@[simp] theorem tryO_3 (Y : Str) (suite : MS) (w e) : tryO Y suite (.rt w e) = .rt w e := rfl
@[simp] theorem tryO_4 (Y : Str) (suite : MS) (e) : tryO Y suite (.bk e) = .bk e := rfl
@[simp] theorem tryO_5 (Y : Str) (suite : MS) (e) : tryO Y suite (.ct e) = .ct e := rfl
@[simp] noncomputable def mTryO (Y : Str) (body : MS) (suite : MS) (e : Env) : SR := tryO Y suite (body e)
end
end VL
set_option Elab.async false
set_option linter.all false
set_option maxRecDepth 100000
set_option maxHeartbeats 4000000
namespace VL
open PySem PySem.Spec PyProof.Rows L2
variable [CM]
def Bt (k : Nat) (q : Rat) : Prop := q.num.natAbs < 2 ^ k ∧ q.den < 2 ^ k
theorem Bt.mono {k l : Nat} {q : Rat} (h : Bt k q) (hl : k ≤ l) : Bt l q := ⟨Nat.lt_of_lt_of_le h.1 (Nat.pow_le_pow_right (by decide) hl), Nat.lt_of_lt_of_le h.2 (Nat.pow_le_pow_right (by decide) hl)⟩
section
variable {k l : Nat} {x y : Rat}
end
end VL
set_option Elab.async false
set_option linter.all false
set_option maxRecDepth 100000
set_option maxHeartbeats 4000000
namespace VL
open PySem PySem.Spec PyProof.Rows L2
variable [CM]
structure PartE (ms : List Dim) (lf B : Nat) : Prop where
  good : ∀ m ∈ ms, isWord m.nm = true ∧ GoodL m.ls m.dp
  nd : (ms.map (·.nm)).Nodup
  few : cellsN ms * lf ≤ B
  one : 1 ≤ lf
end VL
set_option Elab.async false
set_option linter.all false
set_option maxRecDepth 100000
set_option maxHeartbeats 4000000
namespace VL
open PySem PySem.Spec PyProof.Rows L2
variable [CM]
end VL
set_option Elab.async false
set_option linter.all false
set_option maxRecDepth 100000
set_option maxHeartbeats 4000000
namespace VL
open PySem PySem.Spec PyProof.Rows L2
variable [CM]
theorem join_tx {S : List Nat} {q : List (List Nat)} (h : (q.map List.length).sum + q.length * S.length ≤ 16777216) : joinS (tx S) (q.map tx) = some (.val (.str (tx (TL.joinL S q)))) := by
  have e : (q.map tx).map (·.length) = q.map List.length := by rw [List.map_map]; exact List.map_congr_left fun x _ => tx_len x
  rw [joinS_of (by rw [e, List.length_map, tx_len]; exact h)]
  have j : Txt.join (tx S) (q.map tx) = tx (TL.joinL S q) := SX.join_S S q
  rw [j]
end VL
set_option Elab.async false
set_option linter.all false
set_option maxRecDepth 100000
set_option maxHeartbeats 4000000
namespace VL
open PySem PySem.Spec PyProof.Rows L2
noncomputable def B_law_a_text_1 : MS := (mKill [3] (mSet 2 (mOp fAdd (mName 2) (mOp fIx (mName 1) (mCall F_law_draw (mCons (mName 0) (mCons (mC (.int 26)) mNil)))))))
noncomputable def F_law_a_text : FN := fnM 1 5 [0] (mSeq (mSet 1 (mC (.str "abcdefghijklmnopqrstuvwxyz")))
    (mSeq (mIfS (mTst (mOp (fEq false) (mCall F_law_draw (mCons (mName 0) (mCons (mC (.int 6)) mNil))) (mC (.int 0)))) (mRet [0] (mOp fIx (mTup (mCons (mC (.str "sum")) (mCons (mC (.str "where")) (mCons (mC (.str "in")) (mCons (mC (.str "and")) (mCons (mC (.str "ands")) (mCons (mC (.str "su")) mNil))))))) (mCall F_law_draw (mCons (mName 0) (mCons (mC (.int 6)) mNil))))) mNext)
    (mSeq (mSet 2 (mC (.str "")))
    (mSeq (mFor (mRng (mCons (mCall F_law_draw (mCons (mName 0) (mCons (mC (.int 10)) mNil))) mNil)) (gmName 3) B_law_a_text_1)
    (mSeq (mKill [4] (mIfS (mTst (mOp (fEq false) (mCall F_law_draw (mCons (mName 0) (mCons (mC (.int 3)) mNil))) (mC (.int 0)))) (mSeq (mSet 4 (mCall F_law_draw (mCons (mName 0) (mCons (mOp fAdd (mCB fLen (mCons (mName 2) mNil)) (mC (.int 1))) mNil))))
    (mSet 2 (mOp fAdd (mOp fAdd (mSl (mName 2) mNoPart (mPart (mName 4))) (mOp fIx (mC (.str "AZ09 /-_*\n")) (mCall F_law_draw (mCons (mName 0) (mCons (mC (.int 10)) mNil))))) (mSl (mName 2) (mPart (mName 4)) mNoPart)))) mNext))
    (mRet [0] (mName 2)))))))
variable [CM]
theorem marks_tx : Str.ofString "AZ09 /-_*\n" = tx [65, 90, 48, 57, 32, 47, 45, 95, 42, 10] := by decide +kernel
def menuL : List (List Nat) := [wSum, wWhere, wIn, wAnd, [97, 110, 100, 115], [115, 117]]
theorem menu_tx : [D.str (Str.ofString "sum"), D.str (Str.ofString "where"), D.str (Str.ofString "in"), D.str (Str.ofString "and"), D.str (Str.ofString "ands"), D.str (Str.ofString "su")] = menuL.map dT := by
  have h1 : Str.ofString "ands" = tx [97, 110, 100, 115] := by decide +kernel
  have h2 : Str.ofString "su" = tx [115, 117] := by decide +kernel
  rw [sum_tx, where_tx, in_tx, and_tx, h1, h2]
  rfl
theorem a_text_ex (ds : List Int) (k : Nat) : ∃ (l : List Nat) (k' : Nat), l.length ≤ 20 ∧ F_law_a_text [.own (boxD ds k)] = .ok (.val (dT l)) [.own (boxD ds k')] := by
  obtain ⟨r, hr, er⟩ := draw_ex ds k (m := 6) (by decide)
  by_cases h1 : r = 0
  · subst h1
    obtain ⟨r, hr2, er2⟩ := draw_ex ds (k+1) (m := 6) (by decide)
    obtain ⟨x, hx, ex⟩ := atI_lt (xs := menuL.map dT) (r := r) (by simp [menuL]; omega)
    obtain ⟨l, hl, rfl⟩ := List.mem_map.mp hx
    have hl20 : l.length ≤ 20 := by
      clear ex hx
      revert l; decide
    rw [← menu_tx] at ex
    exact ⟨l, k + 1 + 1, hl20, by simp [F_law_a_text, law_draw_eq, er, er2, ex]⟩
  · obtain ⟨r2, hr2, er2⟩ := draw_ex ds (k+1) (m := 10) (by decide)
    have h3 : r2 < 4611686018427387904 := by omega
    simp [F_law_a_text, law_draw_eq, er, h1, er2, h3]
    generalize hr : loopM _ _ _ _ = r
    obtain ⟨e', rfl, l, k', rfl, h3⟩ := loop_at hr (fun r e => ∃ (l : List Nat) (k : Nat), e = [some (.own (boxD ds k)), some (.val (.str (Str.ofString "abcdefghijklmnopqrstuvwxyz"))), some (.val (dT l)), none, none] ∧ l.length + r.length ≤ 10) ⟨[], _, by rw [nil_tx], by simp; omega⟩ (by
      rintro d r e r' ⟨l, k, rfl, hl⟩ hr'
      obtain ⟨r3, hr3, er3⟩ := draw_ex ds k (m := 26) (by decide)
      obtain ⟨x, hx, ex⟩ := atI_lt (xs := lettersL) (r := r3) (by have : lettersL.length = 26 := rfl; omega)
      have hz : lettersL.length ≤ 16777216 := by decide
      simp only [List.length_cons] at hl
      have hl2 : l.length + 1 ≤ 16777216 := by omega
      simp [B_law_a_text_1, law_draw_eq, er3, ex, letters_tx, hz, hl2] at hr'
      subst hr'
      exact ⟨_, .inl rfl, l ++ [x], _, by rw [letters_tx], by simp; omega⟩)
    obtain ⟨r3, hr3, er3⟩ := draw_ex ds k' (m := 3) (by decide)
    simp only [List.length_nil] at h3
    by_cases h4 : r3 = 0
    · subst h4
      obtain ⟨r4, hr4, er4⟩ := draw_ex ds (k'+1) (m := (l.length : Int) + 1) (by omega)
      obtain ⟨r5, hr5, er5⟩ := draw_ex ds (k'+1+1) (m := 10) (by decide)
      obtain ⟨x, hx, ex⟩ := atI_lt (xs := [65, 90, 48, 57, 32, 47, 45, 95, 42, 10]) (r := r5) (by simp; omega)
      have hl : l.length ≤ 16777216 := by omega
      have hm : ((l.length : Int) + 1) ≠ 0 := by omega
      have h6 : (l.take r4).length + 1 ≤ 16777216 := by simp; omega
      have h7 : (l.take r4).length + 1 + (l.drop r4).length ≤ 16777216 := by simp; omega
      refine ⟨l.take r4 ++ [x] ++ l.drop r4, by simp; omega, k' + 1 + 1 + 1, ?_⟩
      have h8 : min r4 l.length + 1 ≤ 16777216 := by omega
      have h9 : min r4 l.length + 1 + (l.length - r4) ≤ 16777216 := by omega
      simp [law_draw_eq, er3, er4, er5, hl, hm, marks_tx, ex, h8, h9]
    · exact ⟨l, by omega, k' + 1, by simp [law_draw_eq, er3, h4]⟩
abbrev spT (t : List Nat) : List (List Nat) := TL.spl [47] 0 [] t
theorem spT_path (t : List Nat) : pathT (spT t) = t := by
  have h1 : Str.join (tx [47]) (Txt.split (tx t) (tx [47])) = tx t := StrLaws.join_split (tx t) (tx [47])
  rw [split_tx] at h1
  have h2 : Txt.join (tx [47]) ((spT t).map tx) = tx (pathT (spT t)) := SX.join_S [47] (spT t)
  have h3 : tx (pathT (spT t)) = tx t := h2.symm.trans ((TL.join_eq _ _).trans h1)
  exact SX.S_inj h3
theorem spT_nil : spT [] = [[]] := TL.spl_nil _ _ _
theorem spT_ne (t : List Nat) : spT t ≠ [] := by
  intro h
  have := spT_path t
  rw [h] at this
  have h2 : t = [] := this.symm
  rw [h2, spT_nil] at h
  cases h
def leafB (d : Nat) (t : List Nat) : Bool := decide ((spT t).length = d) && (spT t).all isWord
theorem leafB_words (d : Nat) (t : List Nat) (hd : 1 ≤ d) : leafB d t = (decide ((wordsT t).length = d) && (wordsT t).all isWord) := by
  unfold leafB wordsT
  by_cases h : t = []
  · subst h
    have h1 : isWord [] = false := by decide
    rw [spT_nil, if_pos rfl]
    have h2 : ¬ (0 = d) := by omega
    simp [h1, h2]
  · rw [if_neg h]
def tAt (q : List (List Nat)) (i : Nat) : List Nat := q.getD i []
def ascB (q : List (List Nat)) : Nat → Bool
  | 0 => true
  | i + 1 => strLt (tx (tAt q i)) (tx (tAt q (i + 1)))
def okAt (q : List (List Nat)) (i : Nat) : Bool := leafB (spT (tAt q 0)).length (tAt q i) && ascB q i
def leavesB (q : List (List Nat)) : Bool := decide (2 ≤ q.length) && decide (q.length ≤ 8) && decide ((spT (tAt q 0)).length ≤ 3) && (List.range q.length).all (okAt q)
theorem atT {q : List (List Nat)} {i : Nat} (h : i < q.length) : atI (q.map dT) (i : Int) = some (dT (tAt q i)) :=
  atI_nat (by rw [List.getElem?_map, List.getElem?_eq_getElem h]; unfold tAt; simp [h])
theorem pathT_mem_len : ∀ {ws : List (List Nat)} {w : List Nat}, w ∈ ws → w.length ≤ (pathT ws).length
  | [], _, h => by cases h
  | [v], w, h => by rw [List.mem_singleton.mp h]; exact Nat.le_refl _
  | v :: u :: r, w, h => by
    have e : pathT (v :: u :: r) = v ++ ([47] ++ pathT (u :: r)) := rfl
    rw [e]
    simp only [List.length_append]
    rcases List.mem_cons.mp h with rfl | h
    · omega
    · have := pathT_mem_len h
      omega
theorem getD_mem {q : List (List Nat)} {i : Nat} (h : i < q.length) : tAt q i ∈ q := by
  unfold tAt; rw [List.getD_eq_getElem?_getD, List.getElem?_eq_getElem h]; exact List.getElem_mem h
theorem are_leavesT {q : List (List Nat)} (hl : q.length ≤ 1000) (ht : okTL q) : F_are_leaves [.val (txD q)] = .ok (.val (.bl (leavesB q))) [.val (txD q)] := by
  unfold leavesB
  by_cases h1 : q.length < 2
  · have h2 : ¬ 2 ≤ q.length := by omega
    have h3 : q.length ≤ 16777216 := by omega
    simp [F_are_leaves, h1, h2, h3]
  by_cases h1' : 8 < q.length
  · have h2 : ¬ q.length ≤ 8 := by omega
    have h3 : q.length ≤ 16777216 := by omega
    simp [F_are_leaves, h1, h1', h2, h3]
  have h2 : 2 ≤ q.length := by omega
  have h2' : q.length ≤ 8 := by omega
  have h3 : q.length ≤ 16777216 := by omega
  have h4 : q.length < 4611686018427387904 := by omega
  have a0 := atT (q := q) (i := 0) (by omega)
  have a0 : atI (q.map dT) 0 = some (dT (tAt q 0)) := a0
  have m0 := getD_mem (q := q) (i := 0) (by omega)
  have w0 := path_wordsT (ht _ m0)
  have hw : ∀ t ∈ q, (wordsT t).length ≤ 16777216 := fun t h => by
    have e : lvT t = (wordsT t).length := rfl
    have := lvT_le t
    have := ht t h
    omega
  have hw0 := hw _ m0
  by_cases hz : tAt q 0 = []
  · have hb : (List.range q.length).all (okAt q) = false := by
      apply Bool.eq_false_iff.mpr
      intro h
      have h := List.all_eq_true.mp h 0 (by simp; omega)
      unfold okAt leafB at h
      rw [hz, spT_nil] at h
      revert h
      simp
      intro h
      exact absurd h (by decide)
    have e0 : wordsT (tAt q 0) = [] := by unfold wordsT; rw [hz]; rfl
    rw [e0] at w0
    rw [hb]
    simp [F_are_leaves, h1, h1', h2, h2', h3, a0, w0]
  have ew : wordsT (tAt q 0) = spT (tAt q 0) := by unfold wordsT; rw [if_neg hz]
  have hd1 : 1 ≤ (spT (tAt q 0)).length := List.length_pos_iff.mpr (spT_ne _)
  rw [ew] at w0 hw0
  generalize hd : (spT (tAt q 0)).length = d at *
  have hd2 : ¬ d < 1 := by omega
  by_cases h5 : 3 < d
  · have h5' : ¬ d ≤ 3 := by omega
    simp [F_are_leaves, h1, h1', h2, h2', h3, a0, w0, hd, hw0, hd2, h5, h5']
  have h5' : d ≤ 3 := by omega
  have key := loop_refG (g := gmName 2) (b := (mKill [2, 3] (mSeq (mSet 3 (mCall F_path_words (mCons (mOp fIx (mName 0) (mName 2)) mNil)))
    (mSeq (mIfS (mOrT (mTst (mOp (fEq true) (mCB fLen (mCons (mName 3) mNil)) (mName 1))) (mNotT (mTst (mAG true [] (mIt (mName 3)) (gmName 4) (mCall F_is_word (mCons (mName 4) mNil)) [4])))) (mRet [] (mC (.bl false))) mNext)
    (mIfS (mAndT (mTst (mOp fGt (mName 2) (mC (.int 0)))) (mTst (mOp fGe (mOp fIx (mName 0) (mOp fSub (mName 2) (mC (.int 1)))) (mOp fIx (mName 0) (mName 2))))) (mRet [] (mC (.bl false))) mNext))))) (fun _ : List Nat => [some (.val (txD q)), some (.val (.int (d : Nat))), none, none, none]) (fun i => okAt q i = true) (fun r => ∃ e, r = .rt (.val (.bl false)) e) (by rintro r f ⟨e, rfl⟩; rfl) (fun i : Nat => D.int i) (List.range q.length) (by
      intro pre i post e
      have hi : i < q.length := by
        have : i ∈ List.range q.length := by rw [e]; simp
        simpa using this
      have ai := atT hi
      have mi := getD_mem hi
      have wi := path_wordsT (ht _ mi)
      have hwi := hw _ mi
      have hws : ∀ w ∈ wordsT (tAt q i), w.length ≤ 16777216 := by
        intro w hw
        have h6 : pathT (wordsT (tAt q i)) = tAt q i := by
          unfold wordsT
          split
          · rename_i h; rw [h]; rfl
          · exact spT_path _
        have h7 := pathT_mem_len hw
        rw [h6] at h7
        have := ht _ mi
        omega
      have hok : okAt q i = (decide ((wordsT (tAt q i)).length = d) && (wordsT (tAt q i)).all isWord && ascB q i) := by
        unfold okAt
        rw [hd, leafB_words _ _ hd1]
      rw [hok]
      generalize hwq : wordsT (tAt q i) = ws at *
      by_cases c1 : ws.length = d
      · have hall : ∀ z : Option M, allM true (gmName 4) (mCall F_is_word (mCons (mName 4) mNil)) [4] (ws.map dT) [some (.val (txD q)), some (.val (.int (d : Nat))), z, some (.val (.tup (ws.map dT))), none] = .ok (ws.all isWord) [some (.val (txD q)), some (.val (.int (d : Nat))), z, some (.val (.tup (ws.map dT))), none] := by
          intro z
          refine all_of (en := dT) (p := isWord) ws fun w hw => ?_
          simp [is_word_eq w (hws w hw)]
        cases c2 : ws.all isWord with
        | false =>
          rw [c2] at hall
          simp [c1]
          simp [ai, wi, hwi, c1, hall]
          first
            | done
            | (rw [c1] at hwi; simp [hwi])
        | true =>
          rw [c2] at hall
          cases i with
          | zero =>
            have hwd : d ≤ 16777216 := by omega
            have ai0 : atI (q.map dT) 0 = some (dT (tAt q 0)) := ai
            simp only [c1, ascB]
            simp [ai0, wi, hwd, c1, hall]
          | succ j =>
            have aj := atT (q := q) (i := j) (by omega)
            have ai' : atI (q.map dT) ((j : Int) + 1) = some (dT (tAt q (j + 1))) := ai
            have hp : (0 : Int) < (j : Int) + 1 := by omega
            have hwd : d ≤ 16777216 := by omega
            cases c3 : strLt (tx (tAt q j)) (tx (tAt q (j + 1))) with
            | false =>
              have hA : ascB q (j + 1) = false := c3
              simp only [c1, hA]
              simp [ai', aj, wi, hwi, c1, hall, hp, c3, hwd]
            | true =>
              have hA : ascB q (j + 1) = true := c3
              simp only [c1, hA]
              simp [ai', aj, wi, hwi, c1, hall, hp, c3, hwd]
      · have c1i : ¬ ((ws.length : Int) = (d : Int)) := by omega
        simp [c1]
        simp [ai, wi, hwi, c1, c1i])
  simp [F_are_leaves, h1, h1', h2, h2', h3, h4, a0, w0, hd, hw0, hd2, h5, h5']
  by_cases hA : ∀ i ∈ List.range q.length, okAt q i = true
  · rw [key.1 hA]
    have : (List.range q.length).all (okAt q) = true := List.all_eq_true.mpr hA
    simp [this]
  · obtain ⟨e, he⟩ := key.2 hA
    rw [he]
    have : (List.range q.length).all (okAt q) = false := by
      apply Bool.eq_false_iff.mpr
      intro h
      exact hA (List.all_eq_true.mp h)
    simp [this]
end VL
set_option Elab.async false
set_option linter.all false
set_option maxRecDepth 100000
set_option maxHeartbeats 4000000
namespace VL
open PySem PySem.Spec PyProof.Rows L2 NdefX
def xinSp (C : Addr) (fld : Str) : Sp := fun vs H Q _ => ∃ (a : Addr) (v : V), vs = [.ref a, v] ∧ H a = some (exo a C none) ∧ ∀ dx, H dx = none → dx ≠ a → Q .non (upd (upd H dx (exd dx [(fld, v)])) a (exo a C (some dx)))
structure XIn (P : Program) (K : PySem.W.Frag) (C f cc cda : Addr) (qual fld : Str) : Prop where
  t : OexC K C
  cd : ∃ cd, PySem.W.clsIn K C = some cd
  su : PySem.W.ks_superIn K C C "__init__" = some (some (.builtin "ValueError.__init__"))
  ve : PySem.W.subIn K (.ref C) (.type "ValueError") = some true
  me : PySem.W.mroIn K C (.ref C) = some true
  no : PySem.W.findIn K (.ref C) fld = some none
  cell : ∃ ccl cdd ccs, K.lookup cc = some ⟨ccl, cdd, .cell (some (.ref C)), ccs⟩
  code : ∃ oc od vs sl file tf, K.lookup cda = some ⟨oc, od, .fields vs, sl⟩ ∧ vs[2]? = some (.str file tf) ∧ ((P.main.file : Str) == file) = true
  cr : PySem.W.codeIn K (.ref cda) qual = true
  sup : PySem.W.nsIn K mainGlobals "super" = some none
  any : PySem.W.nsIn K cStatics "thirdparty.any" = some none
  top : (P.main.scope.names.lookup ("super" : Str)).isSome = false
section
variable {CX : CXT} {P : Program} {w : World} {K : PySem.W.Frag} {mg : Str → Option Value} {base : Heap} {k : Nat} {f C cc cda : Addr} {qual fld x msg : Str} {params : Arguments} {body : List Stmt} {scope : Scope} {dV kV doc pm ct oc : Value} {an od : Option Addr} {osl : Array (Option Value)}
  {p0 p1 p2 p3 p4 p5 p6 p7 p8 p9 : Pos} {j : Nat} {ar : Arg}
end
end VL
set_option Elab.async false
set_option linter.all false
set_option maxRecDepth 100000
set_option maxHeartbeats 4000000
namespace VL
open PySem PySem.Spec PyProof.Rows L2 NdefX
section
variable {X : Cx} {x y fld : Str} {e : Expr} {te : TE} {p pos : Pos} {C fI : Addr} {k : Nat} {fd : FuncData}
end
variable [CM]
structure ExcF (P : Program) (w : World) (K : PySem.W.Frag) (mg : Str → Option Value) (base : Heap) (C fld : Str) : Prop where
  t : OexC K (CM.at_ C)
  fn : ∃ (fI : Addr) (fd : FuncData) (y : Str), PySem.W.findIn K (.ref (CM.at_ C)) "__init__" = some (some (.ref fI)) ∧ PySem.W.typeIn K (.ref fI) = some (.type "function") ∧ FnOk P w K mg base (L2N.CX P w) 1 fI fd ["self", y] (xinSp (CM.at_ C) fld) ∧ Binds K fd ["self", y] []
  g : mg C = some (.ref (CM.at_ C))
  is : IsExc K C
section
variable {c : VC} {Wx : WX} {X : Cx}
def rs1 (C fld : Str) : R Env W → SR
  | .ok (.val d) e => .ex C [(fld, d)] e
  | .ex C' fs e => .ex C' fs e
  | _ => .no
@[simp] theorem rs1_1 (C fld : Str) (d e) : rs1 C fld (.ok (.val d) e) = .ex C [(fld, d)] e := rfl
@[simp] theorem rs1_2 (C fld C' : Str) (fs e) : rs1 C fld (.ex C' fs e) = .ex C' fs e := rfl
@[simp] def mRaise1 (C fld : Str) (m : ME) (e : Env) : SR := rs1 C fld (m e)
end
end VL
set_option Elab.async false
set_option linter.all false
set_option maxRecDepth 100000
set_option maxHeartbeats 4000000
namespace VL
open PySem PySem.Spec PyProof.Rows L2
variable [CM]
section
variable {K : PySem.W.Frag} {c : VC} {Wx : WX} {X : Cx}
def flatD : D → Option V
  | .int i => some (.int i)
  | .str x => some (.str x)
  | _ => none
def flatF : List (Str × D) → Option (List (Str × V))
  | [] => some []
  | (n, d) :: fs => match flatD d, flatF fs with
    | some v, some gs => some ((n, v) :: gs)
    | _, _ => none
theorem flat_rp {H : Hp} {d : D} {v v' : V} (r : Rp K H d v) (h : flatD d = some v') : v = v' := by
  cases r <;> first | (cases h; rfl) | cases h
theorem flat_rpF {H : Hp} : ∀ {fs : List (Str × D)} {gs gs' : List (Str × V)}, RpF K H fs gs → flatF fs = some gs' → gs = gs'
  | [], _, _, r, h => by cases r; cases h; rfl
  | (n, d) :: fs, _, _, r, h => by
    cases r with
    | cons r1 r2 =>
      unfold flatF at h
      split at h
      · rename_i v gs h1 h2
        cases h
        rw [flat_rp r1 h1, flat_rpF r2 h2]
      · cases h
def DOk (fs : List (Str × D)) (gs : List (Str × V)) (d : Option Addr) (l : List (Addr × List (Str × V))) : Prop := flatF fs = some gs ∧ ((d = none ∧ fs = [] ∧ l = []) ∨ ∃ dd, d = some dd ∧ l = [(dd, gs)])
def mXf (f : Str) (fs : List (Str × D)) (e : Env) : R Env W := match fs.lookup f with
  | some d => .ok (.val d) e
  | none => .no
@[simp] theorem mXf_1 (f : Str) (d : D) (e : Env) : mXf f [(f, d)] e = .ok (.val d) e := by
  unfold mXf; rw [List.lookup_cons_self]
def rIsF (K : PySem.W.Frag) (D a : Addr) (d : Option Addr) : List V → Hp → VK → Prop := fun xs H Q => (∀ dd, d = some dd → ∃ gs, H dd = some (.xd gs)) ∧ rIsE K D a xs H Q
theorem call_isF {a : Addr} {C : Str} {d : Option Addr} {oe : Obj} {pn : List (Addr × Obj)} (hE : IsExc X.K C) (hz : L2N.Zn (.ref (CM.at_ C)) d oe) (hf : ∃ vs, oe.data = .fields vs) : CallR (X.suite a ((a, oe) :: pn)) (.builtin "isinstance") (rIsF X.K (CM.at_ C) a d) := by
  cases d with
  | none => exact fun pins s σ H xs us Q I r h => call_isE hE.ex hz.zc hf pins s σ H xs us Q I r h.2
  | some dd =>
    intro pins s σ H xs us Q I r h
    obtain ⟨hdd, c, cv, b, rfl, hcv, e, q⟩ := h
    obtain ⟨gs, hdd⟩ := hdd dd rfl
    obtain ⟨u1, u2, rfl, rx, rt⟩ : ∃ u1 u2, us = [u1, u2] ∧ RelV (.ref a) u1 ∧ RelV c u2 := by
      cases r with
      | cons r1 r2 =>
        cases r2 with
        | cons r2 r3 => cases r3; exact ⟨_, _, rfl, r1, r2⟩
    cases rx
    have ec := hcv _ rt
    subst ec
    obtain ⟨hget, _⟩ := I.pin (a, oe) (List.mem_append.mpr (.inl List.mem_cons_self))
    obtain ⟨vs, hv⟩ := hf
    have hx : ObjOk X.prog X.w H s.heap dd (.xd gs) := I.hok dd _ hdd
    obtain ⟨mA, hns, _⟩ := hx
    obtain ⟨od, ho, _⟩ := lookIn_ns hns
    have J : PySem.W.InstAt s.heap a oe (CM.at_ C) (some od) := ⟨hget, hz.1, by unfold PySem.W.notCls; rw [hv] <;> rfl, by rw [hz.2.1]; exact ho⟩
    exact PySem.W.kia_one (PySem.W.kitx_exc hE.cl hE.ex.hg hE.ex.hk hE.ex.hs hE.ex.ha hE.ex.hn hE.ex.ht hE.ex.hm) I.kIn J e (fun z => nomatch z) fun tk => ⟨.bl b, H, I.kept (t' := tk) fun _ _ z => z, rfl, q⟩
theorem DOk.at {fs : List (Str × D)} {gs : List (Str × V)} {d : Option Addr} {l : List (Addr × List (Str × V))} (h : DOk fs gs d l) {Hb H : Hp} (s : Same Hb H) (hl : ∀ q ∈ l, Hb q.1 = some (.xd q.2)) : ∀ dd, d = some dd → ∃ gs, H dd = some (.xd gs) := fun dd e => by
  rcases h.2 with ⟨h1, _⟩ | ⟨d2, h1, h2⟩
  · rw [h1] at e; cases e
  · rw [h1] at e; cases e
    exact ⟨gs, s _ _ (hl (dd, gs) (by rw [h2]; simp))⟩
theorem fe_isF {C n Y : Str} {i : Nat} {a : Addr} {oe : Obj} {d : Option Addr} {l : List (Addr × List (Str × V))} {fs : List (Str × D)} {gs : List (Str × V)} {pn : List (Addr × Obj)} {fx : List Nat} {T : List Addr} {p p2 p3 pos : Pos} (hY : Y ∈ CM.xs) (hE : IsExc X.K C) (hz : L2N.Zn (.ref (CM.at_ C)) d oe) (hf : ∃ vs, oe.data = .fields vs) (hD : DOk fs gs d l)
    (gY : X.mg Y = some (.ref (CM.at_ Y))) (hm : X.mg "isinstance" = none) (hN : X.N[i]? = some n := by rfl) (hv : Vis X.env.scope n := by first | exact Or.inl rfl | exact Or.inr (Or.inl rfl) | exact Or.inr (Or.inr rfl)) (hd : (n == ("__debug__" : Str)) = false := by decide)
    (hcd : (n == ("__classdict__" : Str)) = false := by decide) (hdY : (Y == ("__debug__" : Str)) = false := by decide) (hg : Gl X "isinstance" := by rfl) (hgY : Gl X Y := by rfl)
    (he : starEach [.Name n p2, .Name Y p3] X.env = (false, eval (.Name n p2) X.env) :: starEach [.Name Y p3] X.env := by rfl) (he2 : starEach [.Name Y p3] X.env = (false, eval (.Name Y p3) X.env) :: starEach [] X.env := by rfl) (hpl : (backTo pos (starEach [.Name Y p3] X.env)).any (·.1) = false := by rfl) :
    FE (X.suite a ((a, oe) :: pn)) ⟨T, i :: fx, [(i, a, l)]⟩ Wx (.Call (.Name "isinstance" p) [.Name n p2, .Name Y p3] [] pos) (tCB (rIsF X.K (CM.at_ C) a d) (tCons (tVar i) (tCons (tC (.ref (CM.at_ Y))) tNil))) (mIsE (isXb C Y)) := by
  have px : PE (X.suite a ((a, oe) :: pn)) (.Name n p2) (tVar i) := pe_var hN hv hd hcd
  have pY : PE (X.suite a ((a, oe) :: pn)) (.Name Y p3) (tC (.ref (CM.at_ Y))) := pe_glob (u := .ref (CM.at_ Y)) hgY gY rfl hdY
  refine ⟨pe_callB (call_isF hE hz hf) hg hm boot_isinstance (pa_cons px (pa_cons pY pa_nil he2) he) (by decide) (by decide) he hpl, fun f Hb env σ H Q QX Q' R q _ k => ?_⟩
  have h1 := R.fix i (by simp)
  have hx := R.xv (i, a, l) (by simp)
  rw [show f.fv i = .ref a from hx.1] at h1
  refine ⟨.ref a, h1, hD.at R.sub hx.2, ?_⟩
  refine ⟨.ref (CM.at_ Y), .ref (CM.at_ Y), isXb C Y, rfl, fun u r => r, (hE.sub Y hY).2, ?_⟩
  exact k (.val (.bl _)) env (.bl _) H Hb (Same.refl _) R (.bl _) q
theorem fe_isFV {C n : Str} {i : Nat} {a : Addr} {oe : Obj} {d : Option Addr} {l : List (Addr × List (Str × V))} {fs : List (Str × D)} {gs : List (Str × V)} {pn : List (Addr × Obj)} {fx : List Nat} {T : List Addr} {p p2 p3 pos : Pos} (hE : IsExc X.K C) (hz : L2N.Zn (.ref (CM.at_ C)) d oe) (hf : ∃ vs, oe.data = .fields vs) (hD : DOk fs gs d l)
    (hm : X.mg "isinstance" = none) (hmV : X.mg "ValueError" = none) (hN : X.N[i]? = some n := by rfl) (hv : Vis X.env.scope n := by first | exact Or.inl rfl | exact Or.inr (Or.inl rfl) | exact Or.inr (Or.inr rfl)) (hd : (n == ("__debug__" : Str)) = false := by decide)
    (hcd : (n == ("__classdict__" : Str)) = false := by decide) (hg : Gl X "isinstance" := by rfl) (hgV : Gl X "ValueError" := by rfl)
    (he : starEach [.Name n p2, .Name "ValueError" p3] X.env = (false, eval (.Name n p2) X.env) :: starEach [.Name "ValueError" p3] X.env := by rfl) (he2 : starEach [.Name "ValueError" p3] X.env = (false, eval (.Name "ValueError" p3) X.env) :: starEach [] X.env := by rfl) (hpl : (backTo pos (starEach [.Name "ValueError" p3] X.env)).any (·.1) = false := by rfl) :
    FE (X.suite a ((a, oe) :: pn)) ⟨T, i :: fx, [(i, a, l)]⟩ Wx (.Call (.Name "isinstance" p) [.Name n p2, .Name "ValueError" p3] [] pos) (tCB (rIsF X.K (CM.at_ C) a d) (tCons (tVar i) (tCons (tC (.ty "ValueError")) tNil))) (mIsE true) := by
  have px : PE (X.suite a ((a, oe) :: pn)) (.Name n p2) (tVar i) := pe_var hN hv hd hcd
  have pY : PE (X.suite a ((a, oe) :: pn)) (.Name "ValueError" p3) (tC (.ty "ValueError")) := pe_bltn (u := .type "ValueError") hgV hmV (by decide +kernel) rfl (by decide) (by decide)
  refine ⟨pe_callB (call_isF hE hz hf) hg hm boot_isinstance (pa_cons px (pa_cons pY pa_nil he2) he) (by decide) (by decide) he hpl, fun f Hb env σ H Q QX Q' R q _ k => ?_⟩
  have h1 := R.fix i (by simp)
  have hx := R.xv (i, a, l) (by simp)
  rw [show f.fv i = .ref a from hx.1] at h1
  refine ⟨.ref a, h1, hD.at R.sub hx.2, ?_⟩
  refine ⟨.ty "ValueError", .type "ValueError", true, rfl, fun u r => r, hE.ve, ?_⟩
  exact k (.val (.bl _)) env (.bl _) H Hb (Same.refl _) R (.bl _) q
noncomputable def catF (i : Nat) (Y : Str) (suite : Str → List (Str × D) → MS) (C : Str) (fs : List (Str × D)) (e : Env) : SR :=
  cif (isXb C Y = true) (cif ((flatF fs).isSome = true ∧ i < e.length) (endX i (suite C fs (e.set i none))) .no) (.ex C fs e)
@[simp] theorem catF_0 (i : Nat) (suite : Str → List (Str × D) → MS) (C : Str) (e : Env) (h : i < e.length) : catF i (Str.ofString "CubeError") suite C [] e = endX i (suite C [] (e.set i none)) := by
  unfold catF
  rw [cif_pos (isXb_top C), cif_pos ⟨rfl, h⟩]
@[simp] theorem catF_1 (i : Nat) (suite : Str → List (Str × D) → MS) (C f : Str) (n : Int) (e : Env) (h : i < e.length) : catF i (Str.ofString "CubeError") suite C [(f, .int n)] e = endX i (suite C [(f, .int n)] (e.set i none)) := by
  unfold catF
  rw [cif_pos (isXb_top C), cif_pos ⟨rfl, h⟩]
@[simp] theorem catF_2 (i : Nat) (suite : Str → List (Str × D) → MS) (C f x : Str) (e : Env) (h : i < e.length) : catF i (Str.ofString "CubeError") suite C [(f, .str x)] e = endX i (suite C [(f, .str x)] (e.set i none)) := by
  unfold catF
  rw [cif_pos (isXb_top C), cif_pos ⟨rfl, h⟩]
noncomputable def tryF (i : Nat) (Y : Str) (suite : Str → List (Str × D) → MS) : SR → SR
  | .ex C fs e => catF i Y suite C fs e
  | r => r
@[simp] theorem tryF_1 (i : Nat) (Y : Str) (suite : Str → List (Str × D) → MS) (C fs e) : tryF i Y suite (.ex C fs e) = catF i Y suite C fs e := rfl
@[simp] theorem tryF_2 (i : Nat) (Y : Str) (suite : Str → List (Str × D) → MS) (e) : tryF i Y suite (.nx e) = .nx e := rfl
@[simp] theorem tryF_3 (i : Nat) (Y : Str) (suite : Str → List (Str × D) → MS) (w e) : tryF i Y suite (.rt w e) = .rt w e := rfl
@[simp] theorem tryF_4 (i : Nat) (Y : Str) (suite : Str → List (Str × D) → MS) (e) : tryF i Y suite (.bk e) = .bk e := rfl
@[simp] theorem tryF_5 (i : Nat) (Y : Str) (suite : Str → List (Str × D) → MS) (e) : tryF i Y suite (.ct e) = .ct e := rfl
@[simp] noncomputable def mTryF (i : Nat) (Y : Str) (body : MS) (suite : Str → List (Str × D) → MS) (e : Env) : SR := tryF i Y suite (body e)
def tSuF (K : PySem.W.Frag) (tsu : Str → List (Str × D) → List (Str × V) → Addr → Option Addr → List (Addr × List (Str × V)) → TS) (a : Addr) (cls : Value) (d : Option Addr) : TS := fun D σ H => ∃ C fs gs l, cls = .ref (CM.at_ C) ∧ IsExc K C ∧ DOk fs gs d l ∧ tsu C fs gs a d l D σ H
theorem fst_tryF {Y n : Str} {i : Nat} {body suite : List Stmt} {b₀ : Stmt} {np pos pos' : Pos} {tb : WX → TS} {mb : MS} {tsu : Str → List (Str × D) → List (Str × V) → Addr → Option Addr → List (Addr × List (Str × V)) → TS} {ms : Str → List (Str × D) → MS}
    (tk : L2N.Takes X Wx) (hY : Y ∈ CM.xs) (gY : X.mg Y = some (.ref (CM.at_ Y))) (hxc : c.xc = [])
    (hb : ∀ (W : WX) (pn : List (Addr × Obj)) (xe : Value → Shared → Prop), L2N.Takes (X.tr pn xe) W → PassesOwn (model X.prog X.w) X.A X.env xe → ∃ ts, FSs (X.tr pn xe) c W body ts mb ∧ ts = tb W)
    (hsu : ∀ (C : Str) (fs : List (Str × D)) (gs : List (Str × V)) (a : Addr) (oe : Obj) (pn : List (Addr × Obj)) (d : Option Addr) (l : List (Addr × List (Str × V))), IsExc X.K C → L2N.Zn (.ref (CM.at_ C)) d oe → (∃ vs, oe.data = .fields vs) → DOk fs gs d l →
      ∃ ts, FSs (X.suite a ((a, oe) :: pn)) ⟨c.T, i :: c.fx, [(i, a, l)]⟩ W0 (b₀ :: suite) ts (ms C fs) ∧ ts = tsu C fs gs a d l)
    (nd : X.N.Nodup) (hs : X.stack = X.env :: X.outer := by rfl) (hf : X.env.frame = some X.env.locals := by rfl) (hx : i ∉ c.fx := by (dsimp only; decide)) (hi : X.N[i]? = some n := by rfl) (hln : X.env.kindOf n = some .local := by rfl) (hgY : Gl X Y := by rfl) (hdY : (Y == ("__debug__" : Str)) = false := by decide) :
    FSt X c Wx (.Try body [.ExceptHandler (some (.Name Y np)) (some n) (b₀ :: suite) pos'] [] [] pos) (fun D σ H => tb (wAs X.K (.ref (CM.at_ Y)) i (tSuF X.K tsu) Wx D) D σ H) (mTryF i Y mb ms) := by
  replace hb := fun W pn xe t po => let ⟨_, h, e⟩ := hb W pn xe t po; (e ▸ h : FSs (X.tr pn xe) c W body (tb W) mb)
  replace hsu := fun C fs gs a oe pn d l e z f k => let ⟨_, h, q⟩ := hsu C fs gs a oe pn d l e z f k; (q ▸ h : FSs (X.suite a ((a, oe) :: pn)) ⟨c.T, i :: c.fx, [(i, a, l)]⟩ W0 (b₀ :: suite) (tsu C fs gs a d l) (ms C fs))
  refine ⟨L2N.ps_try_as hs hf nd hi hln ⟨hgY, hdY, .inl gY⟩ tk (fun W pn xe t po => (hb W pn xe t po).ps) (fun a oe cls d pn hz hfv => ⟨fun pins s σ H D I h => ?_⟩), ?_⟩
  · obtain ⟨C, fs, gs, l, rfl, hE, hD, h⟩ := h
    exact (hsu C fs gs a oe pn d l hE hz hfv hD).ps.run pins s σ H D I h
  · intro f Hb env σ H DV D R q e
    have q : (tryF i Y ms (mb env)).po DV := q
    let W := wAs X.K (.ref (CM.at_ Y)) i (tSuF X.K tsu) Wx D
    have hbs : SimS X.K c W (tb W) (vS mb) := (hb W [(0, ⟨.none, none, .fields #[], #[]⟩), (0, ⟨.none, none, .fields #[.none], #[]⟩)] (fun _ _ => False) (fun u s' ⟨_, _, sI, pins, _, _, _, _, _, I, _⟩ => by
      have h1 := (I.pin (0, ⟨.none, none, .fields #[], #[]⟩) (by simp)).1
      have h2 := (I.pin (0, ⟨.none, none, .fields #[.none], #[]⟩) (by simp)).1
      rw [h1] at h2
      simp at h2) PassesOwn.never).sim
    refine hbs f Hb env σ H ⟨DV.nx, DV.rt, DV.bk, DV.ct, fun C fs e1 => (catF i Y ms C fs e1).po DV⟩ D R ?_ ⟨e.nx, e.rt, e.bk, e.ct, fun C fs env' d σ' H' Hb' s R' x qx => ?_⟩
    · show (mb env).po _
      cases hm : mb env with
      | nx e1 => rw [hm] at q; exact q
      | rt w e1 => rw [hm] at q; exact q
      | bk e1 => rw [hm] at q; exact q
      | ct e1 => rw [hm] at q; exact q
      | ex C fs e1 => rw [hm] at q; exact q
      | no => rw [hm] at q; exact q
    · obtain ⟨hE, hd⟩ := x
      refine ⟨isXb C Y, (hE.sub Y hY).1, fun hb1 a na => ?_, fun hb0 => ?_⟩
      · have qy : (catF i Y ms C fs env').po DV := qx
        unfold catF at qy
        rw [cif_pos hb1] at qy
        by_cases hc : (flatF fs).isSome = true ∧ i < env'.length
        · rw [cif_pos hc] at qy
          obtain ⟨hfl, hl⟩ := hc
          obtain ⟨gs, hgs⟩ := Option.isSome_iff_exists.mp hfl
          obtain ⟨l, hD, hlb⟩ : ∃ l, DOk fs gs d l ∧ ∀ q ∈ l, Hb' q.1 = some (.xd q.2) := by
            rcases hd with ⟨h1, h2⟩ | ⟨h1, dd, gs', h2, h3, h4⟩
            · exact ⟨[], ⟨hgs, .inl ⟨h1, h2, rfl⟩⟩, by simp⟩
            · have := flat_rpF h4 hgs
              subst this
              exact ⟨[(dd, gs')], ⟨hgs, .inr ⟨dd, h2, rfl⟩⟩, by intro q hq; rw [List.mem_singleton.mp hq]; exact h3⟩
          refine ⟨C, fs, gs, l, rfl, hE, hD, ?_⟩
          have hsim : SimS X.K ⟨c.T, i :: c.fx, [(i, a, l)]⟩ W0 (tsu C fs gs a d l) (vS (ms C fs)) := (hsu C fs gs a ⟨.ref (CM.at_ C), d, .fields #[.none, .none, .none], #[]⟩ [] d l hE ⟨rfl, rfl, fun vs e => by cases e; rfl⟩ ⟨_, rfl⟩ hD).sim
          have e' := e.mn s
          refine hsim _ Hb' _ _ H' ⟨fun e1 => DV.nx (e1.set i none), DV.rt, fun e1 => DV.bk (e1.set i none), fun e1 => DV.ct (e1.set i none), fun _ _ _ => False⟩ _ (R'.into (a := a) (l := l) hx hxc hl hlb) ?_ ⟨?_, ?_, ?_, ?_, ?_⟩
          · show (ms C fs _).po _
            cases hm : ms C fs (env'.set i none) with
            | nx e1 => rw [hm] at qy; exact qy
            | rt w e1 => rw [hm] at qy; exact qy
            | bk e1 => rw [hm] at qy; exact qy
            | ct e1 => rw [hm] at qy; exact qy
            | ex C fs e1 => rw [hm] at qy; exact qy
            | no => rw [hm] at qy; exact qy
          · intro e1 σ1 H1 Hb1 s1 R1 q1
            exact e'.nx _ _ _ _ s1 ((R1.outof hx hxc).gone hx) q1
          · intro w e1 v σ1 H1 Hb1 s1 R1 r1 q1
            exact e'.rt w _ v σ1 _ _ s1 (R1.outof hx hxc) r1 q1
          · intro e1 σ1 H1 Hb1 s1 R1 q1
            exact e'.bk _ _ _ _ s1 ((R1.outof hx hxc).gone hx) q1
          · intro e1 σ1 H1 Hb1 s1 R1 q1
            exact e'.ct _ _ _ _ s1 ((R1.outof hx hxc).gone hx) q1
          · intro _ _ _ _ _ _ _ _ _ _ z; exact z.elim
        · rw [cif_neg hc] at qy; exact qy.elim
      · have qx : (catF i Y ms C fs env').po DV := qx
        unfold catF at qx
        rw [cif_neg (by rw [hb0]; decide)] at qx
        exact e.ex C fs env' d σ' H' Hb' s R' ⟨hE, hd⟩ qx
end
end VL
set_option Elab.async false
set_option linter.all false
set_option maxRecDepth 100000
set_option maxHeartbeats 4000000
namespace VL
open PySem PySem.Spec PyProof.Rows L2
variable [CM]
structure HCallee (P : Program) (w : World) (K : PySem.W.Frag) (mg : Str → Option Value) (base : Heap) (T : List Addr) (x : Str) (k : Nat) (ps : List Str) (sp : VSp) (f : Addr) (fd : FuncData) : Prop where
  ok : L2H.FnH P w K mg base (L2N.CX P w) k f fd ps (spOf K T sp)
  g : mg x = some (.ref f)
  b : Binds K fd ps []
  kp : PySem.W.keepIn K (.ref f) = true
theorem fnH_mono {P : Program} {w : World} {K : PySem.W.Frag} {mg : Str → Option Value} {base : Heap} {CX : CXT} {j k : Nat} {f : Addr} {fd : FuncData} {ps : List Str} {sp : Sp} (F : L2H.FnH P w K mg base CX j f fd ps sp) (h : j ≤ k) : L2H.FnH P w K mg base CX k f fd ps sp :=
  ⟨F.len, fun A outer s H args us vs Q E p hr => F.run A outer s H args us vs Q E p (hr.mono h)⟩
theorem HCallee.mono {P : Program} {w : World} {K : PySem.W.Frag} {mg : Str → Option Value} {base : Heap} {T : List Addr} {x : Str} {j k : Nat} {ps : List Str} {sp : VSp} {f : Addr} {fd : FuncData} (C : HCallee P w K mg base T x j ps sp f fd) (h : j ≤ k) : HCallee P w K mg base T x k ps sp f fd := ⟨fnH_mono C.ok h, C.g, C.b, C.kp⟩
theorem hu5 {k : Nat} {A : Around} (r : L2H.RoomH k A) : A.units + 65 < cLine := by have := r.un; omega
theorem hu0 {k : Nat} {A : Around} (r : L2H.RoomH k A) : A.units + 64 < cLine := by have := r.un; omega
section
variable {K : PySem.W.Frag} {c : VC} {Wx : WX} {X : Cx}
theorem hotS {a : Addr} {oe : Obj} {cls : Value} {d : Option Addr} {pn : List (Addr × Obj)} (hz : L2N.Zn cls d oe) (hf : ∃ vs, oe.data = .fields vs) : L2H.HotC (X.suite a ((a, oe) :: pn)) := by
  obtain ⟨vs, h⟩ := hf
  exact ⟨(a, oe), ⟨rfl, vs, h, hz.2.2 vs h⟩, by first | exact List.mem_cons_self | exact List.mem_append_left _ List.mem_cons_self⟩
theorem roomS {k : Nat} {a : Addr} {pn : List (Addr × Obj)} (r : Room k X.A) : L2H.RoomH k (X.suite a pn).A := ⟨r.dp, r.un⟩
theorem fe_fnH {x : Str} {k : Nat} {ps : List Str} {F : FN} {fa : Addr} {fd : FuncData} {p pos : Pos} {e : Expr} {es : List Expr} {t : TA} {v : MA} (C : HCallee X.prog X.w X.K X.mg X.base c.T x k ps (spF F) fa fd) (hr : L2H.RoomH k X.A) (hc : L2H.HotC X) (hx : L2N.Takes X Wx)
    (ha : FA X c Wx (e :: es) t v) (hg : Gl X x := by rfl) (hdb : (x == ("__debug__" : Str)) = false := by decide) (he : starEach (e :: es) X.env = (false, eval e X.env) :: starEach es X.env := by rfl) (hpl : (backTo pos (starEach es X.env)).any (·.1) = false := by rfl) :
    FE X c Wx (.Call (.Name x p) (e :: es) [] pos) (tCallS (spOf X.K c.T (spF F)) (WE Wx) t) (mCall F v) := by
  refine VE.weak (t := vCall (spF F) (vR v)) ⟨L2H.pe_callH C.ok hr hc hg C.g C.kp C.b (fun σ => L2N.passAt hx σ) ha.pa hdb he hpl, fun f Hb env σ H Q QX Q' R q px k => ?_⟩ fun env Q QX h => po_call h
  refine ha.sim f Hb env σ H _ QX _ R q px fun ws env1 vs H1 Hb1 s1 R1 r1 q1 => ?_
  show spOf X.K c.T (spF F) vs H1 Q' (WE Wx σ)
  exact sp_run R1 r1 q1 (px.mn s1) fun w env' v H' Hb' s2 R2 rw q2 => k w env' v H' Hb' (s1.trans s2) R2 rw q2
end
section
variable {P : Program} {w : World} {K : PySem.W.Frag} {mg : Str → Option Value} {base : Heap}
theorem FunB.bodyH {x : Str} {st : Stmt} {f : Addr} {fd : FuncData} {N ps : List Str} {k : Nat} {sp : Sp} (FB : FunB K mg x st ps f fd) (S : FnScope N ps (defScope st)) (hlen : ∀ vs H Q E, sp vs H Q E → vs.length = ps.length)
    (hb : ∀ (cv : Value) (A : Around) (out : List PySem.Env) (s : Shared) (H : Hp) (vs : List V) (Q : VK) (E : XK) (p : Addr × Obj), L2H.Hot1 A p → L2H.RoomH k (A.deeper (envOfC x (defScope st) s.heap.objs.size f cv)) → sp vs H Q E →
      ∃ t, PSs (L2H.cxH (L2N.CX P w) P w K mg base N x (defScope st) f cv A out s H E p) (defBody st) t ∧ t { nx := fun _ H' => Q .non H', rt := Q } (L2.start N vs) H) : L2H.FnH P w K mg base (L2N.CX P w) (k + 1) f fd ps sp := by
  rcases (FunC.of FB.F).ex with ⟨o1, o2, o3, v1, v2, v3, cv, v4, sl, ⟨rfl, _⟩, h2, h3⟩
  exact L2H.fn_ofH h2 h3 S hlen (hb cv)
theorem fl_fnH {x : Str} {st : Stmt} {f : Addr} {fd : FuncData} {N ps : List Str} {k : Nat} {T : List Addr} {fx : List Nat} {F : FN} (np n : Nat) (m : MS) (hF : F = fnM np n fx m) (FB : FunB K mg x st ps f fd) (S : FnScope N ps (defScope st)) (hnp : ps.length = np) (hn : N.length = n)
    (hfx : ∀ i ∈ fx, i < ps.length)
    (hbody : ∀ (cdv : Value) (A : Around) (outer : List PySem.Env) (s : Shared) (H : Hp) (E : XK) (p : Addr × Obj), L2H.HotC (L2H.cxH (L2N.CX P w) P w K mg base N x (defScope st) f cdv A outer s H E p) → L2H.RoomH k (A.deeper (envOfC x (defScope st) s.heap.objs.size f cdv)) →
      ∃ ts, FSs (L2H.cxH (L2N.CX P w) P w K mg base N x (defScope st) f cdv A outer s H E p) ⟨T, fx, []⟩ (fun cls d _ H => E cls d H) (defBody st) ts m) : HCallee P w K mg base T x (k + 1) ps (spF F) f fd := by
  subst hF hnp hn
  have ok : ∀ ms A B, spF (fnM ps.length N.length fx m) ms A B → (ms.length == ps.length && modeB fx ms 0) = true := fun ms A B h => by
    unfold spF at h
    simp only [fnM] at h
    cases hb : (ms.length == ps.length && modeB fx ms 0) with
    | true => rfl
    | false => rw [hb] at h; exact h.elim
  have hl : ∀ ms A B, spF (fnM ps.length N.length fx m) ms A B → ms.length = ps.length ∧ ∀ i oc, ms[i]? = some (.own oc) → i ∈ fx := fun ms A B h => by
    have h1 := ok ms A B h
    simp only [Bool.and_eq_true, beq_iff_eq] at h1
    exact hl0 h1.1 (modeB_of h1.2)
  refine ⟨FB.bodyH S (fun vs H Q E h => ?_) (fun cdv A outer s H vs Q E p hot hr h => ?_), FB.g, FB.b, FB.F.kp⟩
  · obtain ⟨Hb, ms, A, B, p, hs, _⟩ := h
    rw [← p.args.length]
    exact (hl ms A B hs).1
  obtain ⟨ts, hv⟩ := hbody cdv A outer s H E p ⟨p, ⟨hot.1, hot.2⟩, List.mem_cons_self⟩ hr
  refine ⟨ts, hv.ps, vl_core (c := ⟨T, fx, []⟩) (by have := congrArg List.length S.pre; rw [List.length_take] at this; omega) hfx hl hv.sim (fun ms A B h => ?_) rfl h⟩
  have h1 := ok ms A B h
  unfold spF at h
  simp only [fnM] at h
  rw [h1] at h
  exact fn1_po h
end
end VL
set_option Elab.async false
set_option linter.all false
set_option maxRecDepth 100000
set_option maxHeartbeats 4000000
namespace VL
open PySem PySem.Spec PyProof.Rows L2 NdefX
section
variable {K : PySem.W.Frag} {C : Addr}
end
variable [CM]
end VL
set_option Elab.async false
set_option linter.all false
set_option maxRecDepth 100000
set_option maxHeartbeats 4000000
namespace VL
open PySem PySem.Spec PyProof.Rows L2
variable [CM]
end VL
set_option Elab.async false
set_option linter.all false
set_option maxRecDepth 100000
set_option maxHeartbeats 4000000
namespace VL
open PySem PySem.Spec PyProof.Rows L2 L2H
section
variable {prog : Program} {w : World} {A : Around} {E : Value → Shared → Prop} {s : Shared}
theorem hot_but {it x1 : Addr} {h h' : Heap} (hot : HotX.HotAt A x1 h) (hne : x1 ≠ it) (k : ∀ b o, b ≠ it → h.get? b = some o → h'.get? b = some o) : HotX.HotAt A x1 h' := by
  obtain ⟨hh, o, vs, e, d, c⟩ := hot
  exact ⟨hh, o, vs, k x1 o hne e, d, c⟩
theorem stop_hot {α : Type} {x1 : Addr} {Q : α → Shared → Prop} (hot : HotX.HotAt A x1 s.heap) (hE : ∀ (a : Addr) (h' : Heap), (∀ b o, s.heap.get? b = some o → h'.get? b = some o) → (∃ o, h'.get? a = some o ∧ o.cls = .type "StopIteration") → E (.ref a) { s with heap := h' }) :
    wpAny (model prog w) A (newExc (.type "StopIteration") [] >>= fun e => (raiseNew e : Sem α)) Q E s := by
  obtain ⟨hh, o1, vs1, h1, d1, c1⟩ := hot
  refine wpAny_bind ?_
  simp only [newExc, newTuple]
  refine wpAny_bind (wpAny_newObj_type ?_ (by size_fits))
  refine wpAny_bind (m := firstArgMember _ _) (wpAny_of_eq (a := Value.none) (by first | rfl | (simp only [firstArgMember]; rfl)) ?_)
  refine wpAny_newObj_type ?_ (by size_fits)
  have k1 := Heap.get?_push_of_some (⟨.type "tuple", none, .seq ([] : List Value).toArray, #[]⟩ : Obj) h1
  refine HotX.raiseNew_hot ⟨hh, o1, vs1, Heap.get?_push_of_some _ (Heap.get?_push_of_some _ h1), d1, c1⟩ (Nat.ne_of_lt (Heap.lt_size (Heap.get?_push_of_some _ h1))) (Heap.get?_push_size _ rfl) rfl (by first | (simp; done) | (simp; omega) | (simp only [Array.size_append]; simp; omega)) ?_
  refine hE _ _ (fun b o e => ?_) ⟨_, Heap.get?_update_self _ (Heap.get?_push_size _ rfl) rfl, rfl⟩
  rw [Heap.get?_update_other _ _ (Nat.ne_of_gt (Heap.lt_size (Heap.get?_push_of_some _ e)))]
  exact Heap.get?_push_of_some _ (Heap.get?_push_of_some _ e)
theorem list_end_hot {it l x1 : Addr} {i : Nat} {items} {Q : Option Value → Shared → Prop} (hot : HotX.HotAt A x1 s.heap) (hne : x1 ≠ it) (hit : s.heap.IsListIter it l i) (hl : s.heap.IsList l items) (hx : items[i]? = none)
    (hQ : ∀ h', Heap.ExtBut it s.heap h' → Q none { s with heap := h' }) : wpAny (model prog w) A (pyNext (.ref it)) Q E s := by
  obtain ⟨o, ho, hc, hd⟩ := id hit
  obtain ⟨ol, hol, _, nl, hdl⟩ := hl
  have sb := Heap.SameBut.update s.heap it (Obj.mapFields (·.setIfInBounds 0 .none))
  have hot2 := hot_but hot hne fun b o hb e => sb.extBut b o hb e
  unfold pyNext
  refine wpAny_bind (wpAny_attempt (wpAny_callSpecial?_slot (name := Str.ofString "__next__") hit.typeIs slot_listiter_next (wpAny_call_entry slot_listiter_next hit.typeIs entry_listiter_next ?_ (args_listiter_next _))))
  show wpAny _ _ (field (.ref it) 0 >>= _) _ _ s
  refine wpAny_bind (wpAny_field ho hd (x := .ref l) rfl ?_)
  show wpAny _ _ (if (Value.ref l == Value.none) = true then _ else _) _ _ s
  rw [if_neg (show ¬ ((Value.ref l == Value.none) = true) from Bool.false_ne_true)]
  refine wpAny_bind (wpAny_field ho hd (x := .int i 0) rfl ?_)
  refine wpAny_bind (wpAny_seqItems hol hdl ?_)
  simp only [Int.toNat_natCast, hx]
  refine wpAny_bind (wpAny_rule (wpAny_bind (wpAny_setField ho hd (by simp) ?_)))
  refine stop_hot (A := A.in1) (x1 := x1) hot2 fun a h' k ⟨oe, e1, e2⟩ => ?_
  refine wpAny_bind (wpAny_isInstance (T := "StopIteration") (b := true) ⟨oe, e1, e2⟩ isSubtype_stop ?_)
  exact wpAny_pure (hQ _ fun b o hb e => k b o (sb.extBut b o hb e))
theorem tuple_end_hot {it t x1 : Addr} {i : Nat} {items} {Q : Option Value → Shared → Prop} (hot : HotX.HotAt A x1 s.heap) (hne : x1 ≠ it) (hit : s.heap.IsTupleIter it t i) (ht : s.heap.IsTuple t items) (hx : items[i]? = none)
    (hQ : ∀ h', Heap.ExtBut it s.heap h' → Q none { s with heap := h' }) : wpAny (model prog w) A (pyNext (.ref it)) Q E s := by
  obtain ⟨o, ho, hc, hd⟩ := id hit
  obtain ⟨ol, hol, _, nl, hdl⟩ := ht
  have sb := Heap.SameBut.update s.heap it (Obj.mapFields (·.setIfInBounds 0 .none))
  have hot2 := hot_but hot hne fun b o hb e => sb.extBut b o hb e
  unfold pyNext
  refine wpAny_bind (wpAny_attempt (wpAny_callSpecial?_slot (name := Str.ofString "__next__") hit.typeIs F.slot_tuple_iterator_next (wpAny_call_entry F.slot_tuple_iterator_next hit.typeIs F.entry_tuple_iterator_next ?_ (F.args_tuple_iterator_next_1 _))))
  show wpAny _ _ (field (.ref it) 0 >>= _) _ _ s
  refine wpAny_bind (wpAny_field ho hd (x := .ref t) rfl ?_)
  show wpAny _ _ (if (Value.ref t == Value.none) = true then _ else _) _ _ s
  rw [if_neg (show ¬ ((Value.ref t == Value.none) = true) from Bool.false_ne_true)]
  refine wpAny_bind (wpAny_field ho hd (x := .int i 0) rfl ?_)
  refine wpAny_bind (wpAny_seqItems hol hdl ?_)
  simp only [Int.toNat_natCast, hx]
  refine wpAny_bind (wpAny_rule (wpAny_bind (wpAny_setField ho hd (by simp) ?_)))
  refine stop_hot (A := A.in1) (x1 := x1) hot2 fun a h' k ⟨oe, e1, e2⟩ => ?_
  refine wpAny_bind (wpAny_isInstance (T := "StopIteration") (b := true) ⟨oe, e1, e2⟩ isSubtype_stop ?_)
  exact wpAny_pure (hQ _ fun b o hb e => k b o (sb.extBut b o hb e))
theorem ascii_end_hot {it x1 : Addr} {x : Str} {t : Tok} {i : Nat} {Q : Option Value → Shared → Prop} (hot : HotX.HotAt A x1 s.heap) (hne : x1 ≠ it) (hit : s.heap.IsStrIter it "str_ascii_iterator" x t i) (hx : x.cps[i]? = none)
    (hQ : ∀ h', Heap.ExtBut it s.heap h' → Q none { s with heap := h' }) : wpAny (model prog w) A (pyNext (.ref it)) Q E s := by
  obtain ⟨o, ho, hc, hd⟩ := id hit
  unfold pyNext
  refine wpAny_bind (wpAny_attempt (wpAny_callSpecial?_slot (name := Str.ofString "__next__") hit.typeIs F.slot_str_ascii_iterator_next (wpAny_call_entry F.slot_str_ascii_iterator_next hit.typeIs F.entry_str_ascii_iterator_next ?_ (F.args_str_ascii_iterator_next_1 _))))
  show wpAny _ _ (field (.ref it) 0 >>= _) _ _ s
  refine wpAny_bind (wpAny_field ho hd (x := .str x t) rfl ?_)
  show wpAny _ _ (field (.ref it) 1 >>= _) _ _ s
  refine wpAny_bind (wpAny_field ho hd (x := .int i 0) rfl ?_)
  simp only [Int.toNat_natCast, hx]
  refine wpAny_bind (wpAny_rule (wpAny_bind (wpAny_setField ho hd (by simp) (wpAny_bind (wpAny_letGo ?_)))))
  refine stop_hot (A := A.in1) (x1 := x1) (hot_but hot hne fun b o hb e => (Heap.SameBut.update ..).extBut b o hb e) fun a h' k ⟨oe, e1, e2⟩ => ?_
  refine wpAny_bind (wpAny_isInstance (T := "StopIteration") (b := true) ⟨oe, e1, e2⟩ isSubtype_stop ?_)
  exact wpAny_pure (hQ _ fun b o hb e => k b o ((Heap.SameBut.update ..).extBut b o hb e))
theorem wide_end_hot {it x1 : Addr} {x : Str} {t : Tok} {i : Nat} {Q : Option Value → Shared → Prop} (hot : HotX.HotAt A x1 s.heap) (hne : x1 ≠ it) (hit : s.heap.IsStrIter it "str_iterator" x t i) (hx : x.cps[i]? = none)
    (hQ : ∀ h', Heap.ExtBut it s.heap h' → Q none { s with heap := h' }) : wpAny (model prog w) A (pyNext (.ref it)) Q E s := by
  obtain ⟨o, ho, hc, hd⟩ := id hit
  unfold pyNext
  refine wpAny_bind (wpAny_attempt (wpAny_callSpecial?_slot (name := Str.ofString "__next__") hit.typeIs F.slot_str_iterator_next (wpAny_call_entry F.slot_str_iterator_next hit.typeIs F.entry_str_iterator_next ?_ (F.args_str_iterator_next_1 _))))
  show wpAny _ _ (field (.ref it) 0 >>= _) _ _ s
  refine wpAny_bind (wpAny_field ho hd (x := .str x t) rfl ?_)
  show wpAny _ _ (field (.ref it) 1 >>= _) _ _ s
  refine wpAny_bind (wpAny_field ho hd (x := .int i 0) rfl ?_)
  simp only [Int.toNat_natCast, hx]
  refine wpAny_bind (wpAny_rule (wpAny_bind (wpAny_setField ho hd (by simp) (wpAny_bind (wpAny_letGo ?_)))))
  refine stop_hot (A := A.in1) (x1 := x1) (hot_but hot hne fun b o hb e => (Heap.SameBut.update ..).extBut b o hb e) fun a h' k ⟨oe, e1, e2⟩ => ?_
  refine wpAny_bind (wpAny_isInstance (T := "StopIteration") (b := true) ⟨oe, e1, e2⟩ isSubtype_stop ?_)
  exact wpAny_pure (hQ _ fun b o hb e => k b o ((Heap.SameBut.update ..).extBut b o hb e))
end
theorem hot_ne {X : Cx} {pins : List (Addr × Obj)} {σ : L2.St} {H : Hp} {s : Shared} {it : Addr} (hc : HotC X) (I : Inv X pins σ H s) (f : FpOk X pins H it) : ∃ x1, HotX.HotAt X.A x1 s.heap ∧ x1 ≠ it := by
  obtain ⟨p, ⟨h1, vs, d, c⟩, hp⟩ := hc
  have z := I.pin p (List.mem_append_left _ hp)
  refine ⟨p.1, ⟨h1, p.2, vs, z.1, d, c⟩, fun e => ?_⟩
  obtain ⟨f0, f1, f2, f3, f4, f5⟩ := f
  exact f5 p (List.mem_append_left _ hp) e
theorem turn_listH {P : Program} {w : World} {K : PySem.W.Frag} {tg : Expr} (a it : Addr) : TurnH P w K tg (Itl K a) [it] it (fun i h => h.IsListIter it a i) where
  mem := by simp
  obj := fun i h st b hb => by
    have e : b = it := by simpa using hb
    subst e
    obtain ⟨o, e, c, d⟩ := st
    exact ⟨o, e, fun v z => by rw [d] at z; cases z⟩
  keep := fun i h h' st k => st.at fun o e => k it (by simp) o e
  item := by
    rintro X rfl rfl rfl hc i pins s σ H E I hf st ⟨xs, x, hq, hx⟩
    obtain ⟨its, rv, p, hz⟩ := I.list hq
    obtain ⟨u, hu, ru⟩ := rv.get hx
    obtain ⟨f0, f1, f2, f3, f4, f5⟩ := hf it (by simp)
    refine wpAny_pyNext_list_item st p.isList (x := u) (by simpa using hu) fun h' st' sb => ?_
    have I1 : Inv X pins σ H { s with heap := h' } := I.turned (t' := s.toks) (fun b o hb e => (sb.2 b hb).trans e) f0 f1 f3 f4 f5
    obtain ⟨o, e, c, d⟩ := id st'
    exact ⟨u, rfl, go_of (s := { s with heap := h' }) e c d (by decide) ⟨x, H, I1, ru, ⟨rfl, fun ys hy => by rw [I.list_inj hy hq]; exact hx⟩, st', fun b hb => (hf b hb).1⟩⟩
  done := by
    rintro X rfl rfl rfl hc i pins s σ H E I hf st ⟨xs, hq, hx⟩
    obtain ⟨its, rv, p, hz⟩ := I.list hq
    have hfi := hf it (by simp)
    obtain ⟨x1, hot, hne⟩ := hot_ne hc I hfi
    obtain ⟨f0, f1, f2, f3, f4, f5⟩ := hfi
    have hl := rv.length
    exact list_end_hot hot hne st p.isList (by simp; omega) fun h' eb => ⟨rfl, I.turned (t' := s.toks) (fun b o hb e => eb b o hb e) f0 f1 f3 f4 f5⟩
  self := fun _ _ _ _ _ st h => wpAny_pyIter_listiter st h
theorem turn_tupleH {P : Program} {w : World} {K : PySem.W.Frag} {tg : Expr} (a it : Addr) : TurnH P w K tg (Itt K a) [it] it (fun i h => h.IsTupleIter it a i) where
  mem := by simp
  obj := fun i h st b hb => by
    have e : b = it := by simpa using hb
    subst e
    obtain ⟨o, e, c, d⟩ := st
    exact ⟨o, e, fun v z => by rw [d] at z; cases z⟩
  keep := fun i h h' st k => st.at fun o e => k it (by simp) o e
  item := by
    rintro X rfl rfl rfl hc i pins s σ H E I hf st ⟨xs, x, hq, hx⟩
    obtain ⟨its, rv, p, hz⟩ := I.tuple hq
    obtain ⟨u, hu, ru⟩ := rv.get hx
    obtain ⟨f0, f1, f2, f3, f4, f5⟩ := hf it (by simp)
    refine wpAny_pyNext_tuple_item st (show s.heap.IsTuple a its.toArray from p) (x := u) (by simpa using hu) fun h' st' sb => ?_
    have I1 : Inv X pins σ H { s with heap := h' } := I.turned (t' := s.toks) (fun b o hb e => (sb.2 b hb).trans e) f0 f1 f3 f4 f5
    obtain ⟨o, e, c, d⟩ := id st'
    exact ⟨u, rfl, go_of (s := { s with heap := h' }) e c d (by decide) ⟨x, H, I1, ru, ⟨rfl, fun ys hy => by rw [I.tuple_inj hy hq]; exact hx⟩, st', fun b hb => (hf b hb).1⟩⟩
  done := by
    rintro X rfl rfl rfl hc i pins s σ H E I hf st ⟨xs, hq, hx⟩
    obtain ⟨its, rv, p, hz⟩ := I.tuple hq
    have hfi := hf it (by simp)
    obtain ⟨x1, hot, hne⟩ := hot_ne hc I hfi
    obtain ⟨f0, f1, f2, f3, f4, f5⟩ := hfi
    have hl := rv.length
    exact tuple_end_hot hot hne st (show s.heap.IsTuple a its.toArray from p) (by simp; omega) fun h' eb => ⟨rfl, I.turned (t' := s.toks) (fun b o hb e => eb b o hb e) f0 f1 f3 f4 f5⟩
  self := fun _ _ _ _ _ st h => wpAny_pyIter_tupleiter st h
theorem turn_strH {P : Program} {w : World} {K : PySem.W.Frag} {tg : Expr} (it : Addr) (x : Str) (t : Tok) (ty : String) (hty : ty = "str_ascii_iterator" ∨ ty = "str_iterator") : TurnH P w K tg (Its x) [it] it (fun i h => h.IsStrIter it ty x t i) where
  mem := by simp
  obj := fun i h st b hb => by
    have e : b = it := by simpa using hb
    subst e
    obtain ⟨o, e, c, d⟩ := st
    exact ⟨o, e, fun v z => by rw [d] at z; cases z⟩
  keep := fun i h h' st k => let ⟨o, ho, r⟩ := st; ⟨o, k it (by simp) o ho, r⟩
  item := by
    rintro X rfl rfl rfl hc i pins s σ H E I hf st hg
    obtain ⟨f0, f1, f2, f3, f4, f5⟩ := hf it (by simp)
    have hg : i < x.cps.size := hg
    have hno : ["enumerate", "zip", "dict_itemiterator", "dict_reverseitemiterator", "odict_iterator", "itertools.zip_longest", "itertools.pairwise"].contains ty = false := by
      rcases hty with rfl | rfl <;> decide
    have fin : ∀ h' : Heap, h'.IsStrIter it ty x t (i + 1) → Heap.SameBut it s.heap h' → ∃ u, some (Value.str ⟨#[x.cps[i]]⟩ s.toks) = some u ∧ wpAny (model X.prog X.w) X.A (letOwnedTupleGo tg (.ref it) u) (fun _ s2 => ∃ y H', Inv X pins σ H' s2 ∧ RelV y u ∧ (Its x).yld i H y H' ∧ s2.heap.IsStrIter it ty x t (i + 1) ∧ ∀ b ∈ [it], H' b = none) E { s with heap := h', toks := s.toks + 1 } := fun h' st' sb => by
      have I1 : Inv X pins σ H { s with heap := h', toks := s.toks + 1 } := I.turned (fun b o hb e => (sb.2 b hb).trans e) f0 f1 f3 f4 f5
      obtain ⟨oi, e, cc, dd⟩ := id st'
      exact ⟨_, rfl, go_of (s := { s with heap := h', toks := s.toks + 1 }) e cc dd hno ⟨.str ⟨#[x.cps[i]]⟩, H, I1, ⟨s.toks, rfl⟩, ⟨rfl, x.cps[i], by simp [hg], rfl⟩, st', fun b hb => (hf b hb).1⟩⟩
    rcases hty with rfl | rfl
    · exact wpAny_pyNext_ascii_item st (c := x.cps[i]) (by simp [hg]) fin
    · exact wpAny_pyNext_wide_item st (c := x.cps[i]) (by simp [hg]) fin
  done := by
    rintro X rfl rfl rfl hc i pins s σ H E I hf st hg
    have hfi := hf it (by simp)
    obtain ⟨x1, hot, hne⟩ := hot_ne hc I hfi
    obtain ⟨f0, f1, f2, f3, f4, f5⟩ := hfi
    have hx : x.cps[i]? = none := Array.getElem?_eq_none hg
    rcases hty with rfl | rfl
    · exact ascii_end_hot hot hne st hx fun h' eb => ⟨rfl, I.turned (t' := s.toks) (fun b o hb e => eb b o hb e) f0 f1 f3 f4 f5⟩
    · exact wide_end_hot hot hne st hx fun h' eb => ⟨rfl, I.turned (t' := s.toks) (fun b o hb e => eb b o hb e) f0 f1 f3 f4 f5⟩
  self := fun A i s Q E st h => by
    rcases hty with rfl | rfl
    · exact wpAny_pyIter_striter_ascii st h
    · exact wpAny_pyIter_striter_wide st h
end VL
set_option Elab.async false
set_option linter.all false
set_option maxRecDepth 100000
set_option maxHeartbeats 4000000
namespace VL
open PySem PySem.Spec PyProof.Rows L2 L2H
variable [CM]
section
variable {X : Cx} {tg : Expr}
theorem pie_hot {pins : List (Addr × Obj)} {σ : L2.St} {H : Hp} {s : Shared} {R : It → Hp → Prop} {J : It} {tn : Nat → Heap → Prop} {tk : Nat} (I : Inv X pins σ H s) (o : Obj) (T : TurnH X.prog X.w X.K tg J [s.heap.objs.size] s.heap.objs.size tn) (st : tn 0 (s.heap.push o)) (q : R J H) :
    PIEH X pins σ tg R (.ref s.heap.objs.size) { s with heap := s.heap.push o, toks := tk } := by
  refine ⟨s.heap.objs.size, [s.heap.objs.size], tn, J, H, rfl, I.kept fun b ob e => Heap.get?_push_of_some _ e, T, st, fun b hb => ?_, q⟩
  rw [List.mem_singleton.mp hb]
  exact I.fpOk (Nat.le_refl _) (I.hok.fresh (Nat.le_refl _))
theorem pi_seqH {l : Expr} {tl : TE} (hl : PE X l tl) : PIH X tg l (iSeq X.K tl) := by
  refine ⟨fun pins s σ H R I h => thn (hl.run pins s σ H _ I h) fun v s1 ⟨x, H1, I1, r1, q1⟩ => ?_⟩
  rcases q1 with ⟨a, rfl, ⟨xs, hq⟩, q⟩ | ⟨a, rfl, ⟨xs, hq⟩, q⟩ | ⟨z, rfl, q⟩
  · cases r1
    obtain ⟨its, rv, p, hz⟩ := I1.list hq
    exact wpAny_pyIter_list p.isList (pie_hot (tk := s1.toks) I1 _ (turn_listH a _) ⟨_, Heap.get?_push_size _ rfl, rfl, rfl⟩ q)
  · cases r1
    obtain ⟨its, rv, p, hz⟩ := I1.tuple hq
    exact wpAny_pyIter_tuple (show s1.heap.IsTuple a its.toArray from p) (pie_hot (tk := s1.toks) I1 _ (turn_tupleH a _) ⟨_, Heap.get?_push_size _ rfl, rfl, rfl⟩ q)
  · obtain ⟨t, rfl⟩ := r1
    cases ha : z.cps.all (· < 128)
    · exact wpAny_pyIter_wide ha (pie_hot (tk := s1.toks) I1 _ (turn_strH _ z t "str_iterator" (.inr rfl)) ⟨_, Heap.get?_push_size _ rfl, rfl, rfl⟩ q)
    · exact wpAny_pyIter_ascii ha (pie_hot (tk := s1.toks) I1 _ (turn_strH _ z t "str_ascii_iterator" (.inl rfl)) ⟨_, Heap.get?_push_size _ rfl, rfl, rfl⟩ q)
end
section
variable {K : PySem.W.Frag} {c : VC} {Wx : WX} {X : Cx}
structure FIH (X : Cx) (c : VC) (Wx : WX) (tg iter : Expr) (wi : TI) (m : MI) : Prop where
  pi : PIH X tg iter wi
  sim : SimI X.K c Wx wi (vR m)
theorem fi_seqH {tg e : Expr} {te : TE} {m : ME} (h : FE X c Wx e te m) : FIH X c Wx tg e (iSeq X.K te) (mIt m) := ⟨pi_seqH h.pe, (fi_seq (tg := tg) h).sim⟩
theorem fi_range1H {tg a : Expr} {ta : TE} {m : ME} {p pos : Pos} (hm : X.mg "range" = none) (ha : FE X c Wx a ta m) (hg : Gl X "range" := by rfl) (hs : starEach [a] X.env = [(false, eval a X.env)] := by rfl) : FIH X c Wx tg (.Call (.Name "range" p) [a] [] pos) (iRng1 (tCons ta tNil)) (mRng (mCons m mNil)) :=
  ⟨pi_range1H hg hm (fa_cons (hs := hs) ha fa_nil).pa hs, (fi_range1 (tg := tg) (p := p) (pos := pos) hm ha hg hs).sim⟩
theorem sim_for {wi : TI} {g : TG} {tb : TS} {vi : VI} {vg : VG} {vb : VS} {ss : List Nat} (hi : SimI K c Wx wi vi) (hg : SimG K c ss g vg) (hb : SimS K c Wx tb vb) : SimS K c Wx (tFor wi g tb) (vFor vi vg vb) := by
  intro f Hb env σ H DV D R q e
  refine hi f Hb env σ H _ _ _ R q e.px fun items env0 J H0 Hb0 s0 R0 it q0 => ?_
  refine ⟨fun i m σ' H' => ∃ env' Hb', Same Hb0 Hb' ∧ Rl K c f Hb' env' σ' H' ∧ m = items.length - i ∧ i ≤ items.length ∧ loopF vg vb DV (items.drop i) env', ⟨items.length, env0, Hb0, Same.refl _, R0, by simp, Nat.zero_le _, q0⟩, ?_⟩
  rintro i m σ1 H1 ⟨env1, Hb1, s1, R1, rfl, hi1, q1⟩
  have e1 := e.mn (s0.trans s1)
  by_cases hlt : i < items.length
  · rw [List.drop_eq_getElem_cons hlt] at q1
    refine .inr ⟨it.go i Hb1 H1 s1 R1.sub hlt, fun σ' H' => ∃ env' Hb', Same Hb0 Hb' ∧ Rl K c f Hb' env' σ' H' ∧ loopF vg vb DV (items.drop (i + 1)) env', fun σ' H' z => ?_, fun x H2 hy => ?_⟩
    · obtain ⟨env', Hb', z1, z2, z3⟩ := z
      exact ⟨items.length - (i + 1), by omega, env', Hb', z1, z2, rfl, hlt, z3⟩
    · obtain ⟨Hb2, x2, r2⟩ := it.yld i _ x Hb1 H1 H2 s1 R1.sub (List.getElem?_eq_getElem hlt) hy
      refine hg f Hb2 env1 σ1 H2 _ x _ _ (R1.ext x2) r2 q1 fun env3 σ3 H3 Hb3 s3 R3 _ q3 => ?_
      have e3 := e1.mn (x2.b.trans s3)
      have nxt : ∀ env' σ' H' Hb', Same Hb3 Hb' → Rl K c f Hb' env' σ' H' → loopF vg vb DV (items.drop (i + 1)) env' → ∃ env'' Hb'', Same Hb0 Hb'' ∧ Rl K c f Hb'' env'' σ' H' ∧ loopF vg vb DV (items.drop (i + 1)) env'' :=
        fun env' σ' H' Hb' s R' q' => ⟨env', Hb', (s1.trans (x2.b.trans s3)).trans s, R', q'⟩
      exact hb f Hb3 env3 σ3 H3 _ _ R3 q3 ⟨nxt, e3.rt, e3.nx, nxt, e3.ex⟩
  · have hi2 : i = items.length := by omega
    rw [hi2, List.drop_length] at q1
    exact .inl ⟨it.stop i Hb1 H1 s1 R1.sub (by omega), e1.nx _ _ _ _ (Same.refl _) R1 q1⟩
theorem fst_forH {tg iter : Expr} {b : List Stmt} {wi : TI} {g : TG} {tb : TS} {vi : MI} {vg : GM} {vb : MS} {pos : Pos} (hp : PassesOwn (model X.prog X.w) X.A X.env X.xe) (hc : HotC X) {ss : List Nat} (hi : FIH X c Wx tg iter wi vi) (hg : FG X c ss tg g vg) (hb : FSs X c Wx b tb vb)
    (hs : ∀ x, foldedSetIterable iter X.env x = pure x := by intro _; rfl) : FSt X c Wx (.For tg iter b [] pos) (tFor wi g tb) (mFor vi vg vb) := VSt.weak ⟨ps_forH hp hc hi.pi hg.pg hb.ps hs, sim_for hi.sim hg.sim hb.sim⟩ fun DV env h => by
  have h : (for1 vg vb (vi env)).po DV := h
  show (vi env).po _ DV.ex
  cases hA : vi env with
  | ex C fs s => rw [hA] at h; exact h
  | no => rw [hA] at h; exact h
  | ok ds e => rw [hA] at h; exact po_loop h
end
end VL
set_option Elab.async false
set_option linter.all false
set_option maxRecDepth 100000
set_option maxHeartbeats 4000000
namespace VL
open PySem PySem.Spec PyProof.Rows L2 L2H
abbrev blkH (X : Cx) (s : Shared) (H : Hp) (scope : Scope) (cenv : PySem.Env) (fp : List Addr) (p : Addr × Obj) : Cx := { X.blk s H scope cenv fp with pn := [p] }
theorem blkH_in {X : Cx} {s0 s : Shared} {H0 H : Hp} {scope : Scope} {cenv : PySem.Env} {fp : List Addr} {p : Addr × Obj} {σ : L2.St} (I : Inv (X.blk s0 H0 scope cenv fp) [] σ H s) (hp : s.heap.get? p.1 = some p.2 ∧ H p.1 = none ∧ p.1 ≠ cenv.locals ∧ p.1 ∉ (X.blk s0 H0 scope cenv fp).fs ∧ ∀ v, p.2.data ≠ .cell v) : Inv (blkH X s0 H0 scope cenv fp p) [] σ H s := by
  obtain ⟨ok, os, bare, base, loc, cell, free, freeC, pin, hok, len⟩ := I
  obtain ⟨o1, o2, o3, o4, o5, o6, o7, o8, o9, o10, o11, o12, o13, o14, o15, o16, o17, o18⟩ := ok
  refine ⟨⟨o1, o2, o3, o4, o5, o6, o7, o8, o9, o10, o11, o12, o13, o14, o15, o16, o17, o18⟩, os, bare, base, loc, cell, free, freeC, fun q hq => ?_, hok, len⟩
  have e : q = p := by simpa using hq
  rw [e]
  exact hp
theorem blkH_hot {X : Cx} {s : Shared} {H : Hp} {scope : Scope} {cenv : PySem.Env} {fp : List Addr} {p : Addr × Obj} (h : Hot1 X.A p) : HotC (blkH X s H scope cenv fp p) := ⟨p, h, by simp⟩
section
variable {X : Cx} {elt tg iter : Expr} {ifs : List Expr} {scope : Scope} {own : List (Str × Nat)} {pos : Pos} {wi : TI} {g : TG} {tt : TT} {te : TE}
theorem lc_hot {pins : List (Addr × Obj)} {s : Shared} {σ : L2.St} {H : Hp} {Q : VK} {pos' : Pos} {use : Option (Value → Sem Unit)} {Qf : Value → Shared → Prop} (hc : HotC X) (hN : X.N.Nodup) (I : Inv X pins σ H s) (hi : PIH X tg iter wi) (ok : BlkOk X.N X.env.scope scope own)
    (hg : ∀ (s : Shared) (H : Hp) (C : Addr) (cl : List (Str × Addr)) (fp : List Addr) (p : Addr × Obj), Hot1 X.A p → PG (blkH X s H scope (compEnvC scope cl C X.env) fp p) tg g)
    (ht : ∀ (s : Shared) (H : Hp) (C : Addr) (cl : List (Str × Addr)) (fp : List Addr) (p : Addr × Obj), Hot1 X.A p → PTs (blkH X s H scope (compEnvC scope cl C X.env) fp p) ifs tt)
    (he : ∀ (s : Shared) (H : Hp) (C : Addr) (cl : List (Str × Addr)) (fp : List Addr) (p : Addr × Obj), Hot1 X.A p → PE (blkH X s H scope (compEnvC scope cl C X.env) fp p) elt te) (hs : ∀ x, foldedSetIterable iter X.env x = pure x)
    (h : tLc wi g tt te (own.map (·.2)) σ H Q) (fin : ∀ D C s' m H', Inv X pins σ H' s' → Q (.ref D) H' → s'.heap.Ns C m → FpOk X pins H' C → compPost (model X.prog X.w) X.A X.xe use Qf (.ref D) C (.ok .next) s') :
    wpAny (model X.prog X.w) X.A (comprehension (.ListComp elt [⟨tg, iter, ifs, 0⟩] scope pos) scope X.env pos' (newList []) false (eval iter X.env) use) Qf X.xe s := by
  obtain ⟨px, hot, hpx⟩ := hc
  have hfree : ∀ y ∈ scope.names, y.2 = .free → ∃ c, X.env.cells.lookup y.1 = some c := fun y hy e => (ok.free y hy e).elim (fun k => I.ok.has _ (.inl k)) fun k => I.ok.has _ (.inr k)
  refine wpAny_comprehension_free (use := use) rfl hs (closure_ok hfree) ok.kind (fun y hy e => by rw [ok.uniq y hy, e]) (thn (hi.run pins s σ H _ I h) fun xv s1 hx => thn hx fun itv s2 h2 => ?_)
  obtain ⟨it, fp, tn, J, H2, rfl, I2, T, st2, f2, q⟩ := h2
  refine wpAny_newObj_type (newEnv_comp ?_) (Nat.zero_le _)
  obtain ⟨D, hD⟩ : ∃ D, s2.heap.objs.size = D := ⟨_, rfl⟩
  have freshD : H2 D = none := I2.hok.fresh (Nat.le_of_eq hD)
  obtain ⟨W, ⟨m0, w0⟩, turn⟩ := q D freshD
  obtain ⟨s3, hs3⟩ : ∃ s3 : Shared, s3 = { s2 with heap := s2.heap.push { cls := .type "list", data := .seq ([] : List Value).toArray } } := ⟨_, rfl⟩
  have hp3 : s3.heap = s2.heap.push { cls := .type "list", data := .seq ([] : List Value).toArray } := by rw [hs3]
  have up3 : ∀ b o, s2.heap.get? b = some o → s3.heap.get? b = some o := fun b o e => by rw [hp3]; exact Heap.get?_push_of_some _ e
  have I3 : Inv X pins σ (upd H2 D (.lst [])) s3 := by
    rw [hs3]
    refine I2.laid (t' := s2.toks) (fun b o e => Heap.get?_push_of_some _ e) (Nat.le_of_eq hD) ⟨Nat.zero_le _, [], 0, .nil, ?_⟩
    rw [← hD]
    exact Heap.get?_push_size _ rfl
  have old : ∀ b ∈ fp, b < s2.heap.objs.size := fun b hb => by
    obtain ⟨o, e, _⟩ := T.obj _ _ st2 b hb
    exact Heap.lt_size e
  have f3 : ∀ b ∈ fp, FpOk X pins (upd H2 D (.lst [])) b ∧ b < s3.heap.objs.size := fun b hb => by
    have lt := old b hb
    refine ⟨⟨?_, (f2 b hb).2⟩, by rw [hp3, Heap.size_push]; exact Nat.lt_succ_of_lt lt⟩
    rw [upd_ne (by rw [← hD]; exact Nat.ne_of_lt lt)]
    exact (f2 b hb).1
  have P3 := I3.pin px (List.mem_append_left _ hpx)
  have ltp : px.1 < s3.heap.objs.size := Heap.lt_size P3.1
  have st3 : tn 0 s3.heap := T.keep _ _ _ st2 fun b _ o e => up3 b o e
  have IB := block_start I3 ok hN f3
  obtain ⟨C, hC⟩ : ∃ C, s3.heap.objs.size = C := ⟨_, rfl⟩
  obtain ⟨H3, hH3⟩ : ∃ H3, upd H2 D (.lst []) = H3 := ⟨_, rfl⟩
  rw [hH3] at I3 IB P3 f3 w0
  rw [hC] at IB
  obtain ⟨cl, hcl⟩ : ∃ cl, cellsFrom (C + 1) scope.names (cloFrom X.env.cells scope.names []) = cl := ⟨_, rfl⟩
  rw [hcl] at IB
  obtain ⟨ce, hce⟩ : ∃ ce, compEnvC scope cl C X.env = ce := ⟨_, rfl⟩
  have pg := hg s3 H3 C cl fp px hot
  have pt := ht s3 H3 C cl fp px hot
  have pe := he s3 H3 C cl fp px hot
  rw [hce] at IB pg pt pe
  have ceL : ce.locals = C := by rw [← hce]; rfl
  obtain ⟨s4, hs4⟩ : ∃ s4 : Shared, ({ s3 with heap := pushCells (s3.heap.push { cls := .type "dict", data := .dict #[] }) scope.names } : Shared) = s4 := ⟨_, rfl⟩
  have up4 : ∀ b o, s3.heap.get? b = some o → s4.heap.get? b = some o := fun b o e => by rw [← hs4]; exact pushCells_keeps _ _ _ _ (Heap.get?_push_of_some _ e)
  rw [hs4] at IB
  have goal : codeAny (model X.prog X.w) X.A (.compStart (.ListComp elt [⟨tg, iter, ifs, 0⟩] scope pos) 0 (.ref it) (.ref D) ce) (compPost (model X.prog X.w) X.A X.xe use Qf (.ref D) C) s4 := by
    have nfs : px.1 ∉ (X.blk s3 H3 scope ce fp).fs := fun hm => by
      rcases List.mem_cons.mp (I3.stkSub _ hm) with e | e
      · exact P3.2.2.1 e
      · exact P3.2.2.2.1 e
    have I4 : Inv (blkH X s3 H3 scope ce fp px) [] (wipe σ (own.map (·.2))) H3 s4 := blkH_in IB ⟨up4 _ _ P3.1, P3.2.1, by rw [ceL, ← hC]; exact Nat.ne_of_lt ltp, nfs, P3.2.2.2.2⟩
    have hcB : HotC (blkH X s3 H3 scope ce fp px) := blkH_hot hot
    have st4 : tn 0 s4.heap := T.keep _ _ _ st3 fun b _ o e => up4 b o e
    have stat : ∀ {σ' : L2.St} {H' : Hp} {s' : Shared}, Inv (blkH X s3 H3 scope ce fp px) [] σ' H' s' → (∀ b ∈ fp, H' b = none) → ∀ b ∈ fp, FpOk (blkH X s3 H3 scope ce fp px) [] H' b := fun {σ' H' s'} I' hn b hb =>
      ⟨hn b hb, (I'.ok.exf b hb).1, I'.ok.exfs b hb, .inl hb, fun x c e => (I'.ok.exf b hb).2 x c e, fun p hp => by
        have e : p = px := by simpa using hp
        rw [e]
        exact (f3 b hb).1.2.2.2.2.2 px (List.mem_append_left _ hpx)⟩
    have loop : codeAny (model X.prog X.w) X.A (.compLoop (.ListComp elt [⟨tg, iter, ifs, 0⟩] scope pos) 0 (.ref it) (.ref D) ce) (compPost (model X.prog X.w) X.A X.xe use Qf (.ref D) C) s4 := by
      refine compLoop_any (fun n s' => ∃ i H', Inv (blkH X s3 H3 scope ce fp px) [] (wipe σ (own.map (·.2))) H' s' ∧ tn i s'.heap ∧ (∀ b ∈ fp, H' b = none) ∧ W i n H') ?_ m0 ⟨0, H3, I4, st4, fun b hb => (f3 b hb).1.1, w0⟩
      rintro n s5 ⟨i, H5, I5, st5, n5, w5⟩
      rcases turn i n H5 w5 with ⟨stop, qq⟩ | ⟨go, Nx, hNx, step⟩
      · refine thnF (T.done (blkH X s3 H3 scope ce fp px) rfl rfl rfl hcB i [] s5 _ H5 (fun _ _ => False) I5 (stat I5 n5) st5 stop) fun r s6 ⟨hr, I6⟩ => ?_
        subst hr
        have I7 : Inv X pins σ H5 s6 := I3.call' (ch := fp) I6.os I6.base I6.hok I6.bare fun b hb => ⟨(f3 b hb).1.2.2.2.1, (f3 b hb).1.2.1, (f3 b hb).1.2.2.2.2.1, (f3 b hb).1.2.2.2.2.2⟩
        have nC : H5 C = none := by rw [← ceL]; exact I6.free
        obtain ⟨m, hn, _⟩ := I6.loc
        have hn : s6.heap.Ns ce.locals m := hn
        rw [ceL] at hn
        exact fin D C s6 m H5 I7 qq hn (I3.fpOk (Nat.le_of_eq hC) nC)
      · refine thnF (T.item (blkH X s3 H3 scope ce fp px) rfl rfl rfl hcB i [] s5 _ H5 (fun _ _ => False) I5 (stat I5 n5) st5 go) fun r s6 ⟨u, hr, h6⟩ => ?_
        subst hr
        refine thnF h6 fun _ s7 ⟨x, H7, I7, r7, y7, st7, n7⟩ => ?_
        have J7 := I7.pinned (stat I7 n7) (T.obj _ _ st7)
        refine thnF (pg.run _ s7 _ H7 x u _ J7 r7 (step x H7 y7)) fun _ s8 ⟨σ8, H8, I8, hw8, q8⟩ => ?_
        refine thnF (pt.run _ s8 σ8 H8 _ I8 q8) fun b s9 ⟨H9, I9, q9⟩ => ?_
        have again : ∀ {s' : Shared} {H' : Hp}, Inv (blkH X s3 H3 scope ce fp px) ([] ++ pinsAt fp s7.heap) σ8 H' s' → Nx H' → ∃ m, m < n ∧ ∃ i H', Inv (blkH X s3 H3 scope ce fp px) [] (wipe σ (own.map (·.2))) H' s' ∧ tn i s'.heap ∧ (∀ b ∈ fp, H' b = none) ∧ W i m H' := fun {s' H'} I' nx => by
          obtain ⟨m', hm, w'⟩ := hNx H' nx
          have stay : ∀ b ∈ fp, ∀ o, s7.heap.get? b = some o → s'.heap.get? b = some o ∧ H' b = none := fun b hb o e =>
            ⟨(I'.pin (b, o) (List.mem_append_right _ (List.mem_append_right _ (mem_pinsAt hb e)))).1, (I'.pin (b, o) (List.mem_append_right _ (List.mem_append_right _ (mem_pinsAt hb e)))).2.1⟩
          refine ⟨m', hm, i + 1, H', (I'.unpinned (pins := [])).weak (by rw [← hw8, wipe_length]) (fun j v e => by rw [← hw8] at e; exact (wipe_some e).1), T.keep _ _ _ st7 fun b hb o e => (stay b hb o e).1, fun b hb => ?_, w'⟩
          obtain ⟨o, e, _⟩ := T.obj _ _ st7 b hb
          exact (stay b hb o e).2
        cases b with
        | false =>
          simp only [Bool.false_eq_true, if_false] at q9 ⊢
          exact again I9 q9
        | true =>
          simp only [if_true] at q9 ⊢
          refine thnF (pe.run _ s9 σ8 H9 _ I9 q9) fun z s10 ⟨yv, H10, I10, r10, acc, hD10, hz10, nx⟩ => ?_
          exact app_ok (X := blkH X s3 H3 scope ce fp px) I10 hD10 hz10 r10 fun s11 I11 => again I11 nx
    exact codeAny_compStart_list loop (T.self X.A 0 _ _ _ st4 loop)
  subst hs4 hce hcl hC hs3 hD
  exact goal
theorem pe_lcH (hc : HotC X) (hN : X.N.Nodup) (hi : PIH X tg iter wi) (ok : BlkOk X.N X.env.scope scope own)
    (hg : ∀ (s : Shared) (H : Hp) (C : Addr) (cl : List (Str × Addr)) (fp : List Addr) (p : Addr × Obj), Hot1 X.A p → PG (blkH X s H scope (compEnvC scope cl C X.env) fp p) tg g)
    (ht : ∀ (s : Shared) (H : Hp) (C : Addr) (cl : List (Str × Addr)) (fp : List Addr) (p : Addr × Obj), Hot1 X.A p → PTs (blkH X s H scope (compEnvC scope cl C X.env) fp p) ifs tt)
    (he : ∀ (s : Shared) (H : Hp) (C : Addr) (cl : List (Str × Addr)) (fp : List Addr) (p : Addr × Obj), Hot1 X.A p → PE (blkH X s H scope (compEnvC scope cl C X.env) fp p) elt te) (hs : ∀ x, foldedSetIterable iter X.env x = pure x) :
    PE X (.ListComp elt [⟨tg, iter, ifs, 0⟩] scope pos) (tLc wi g tt te (own.map (·.2))) := ⟨fun pins s σ H Q I h => by
  rw [eval_ListComp]
  refine lc_hot hc hN I hi ok hg ht he hs h fun D C s' m H' I' q hn f => ⟨m, hn, fun h'' sb => ?_⟩
  obtain ⟨g0, g1, g2, g3, g4, g5⟩ := f
  exact ⟨.ref D, H', I'.turned (t' := s'.toks) (fun b o hb e => (sb.2 b hb).trans e) g0 g1 g3 g4 g5, rfl, q⟩⟩
theorem ps_setLcH {i : Nat} {y : Str} {py spos : Pos} (hc : HotC X) (hN : X.N.Nodup) (hy : X.N[i]? = some y) (hyl : X.env.scope.names.lookup y = some .local) (hsw : swapsWith (.ListComp elt [⟨tg, iter, ifs, 0⟩] scope pos) (some (.Name y py)) spos.line X.env = pure true) (hi : PIH X tg iter wi) (ok : BlkOk X.N X.env.scope scope own)
    (hg : ∀ (s : Shared) (H : Hp) (C : Addr) (cl : List (Str × Addr)) (fp : List Addr) (p : Addr × Obj), Hot1 X.A p → PG (blkH X s H scope (compEnvC scope cl C X.env) fp p) tg g)
    (ht : ∀ (s : Shared) (H : Hp) (C : Addr) (cl : List (Str × Addr)) (fp : List Addr) (p : Addr × Obj), Hot1 X.A p → PTs (blkH X s H scope (compEnvC scope cl C X.env) fp p) ifs tt)
    (he : ∀ (s : Shared) (H : Hp) (C : Addr) (cl : List (Str × Addr)) (fp : List Addr) (p : Addr × Obj), Hot1 X.A p → PE (blkH X s H scope (compEnvC scope cl C X.env) fp p) elt te) (hs : ∀ x, foldedSetIterable iter X.env x = pure x) :
    PS X (.Assign [.Name y py] (.ListComp elt [⟨tg, iter, ifs, 0⟩] scope pos) spos) (tAsg (tLc wi g tt te (own.map (·.2))) (gName i)) := ⟨fun pins s σ H D I h => by
  rw [exec_Assign_Name_used _ _ _ _ hsw]
  refine wpAny_bind (wpAny_standAt (wpAny_bind ?_))
  show wpAny _ X.A (do let _ ← comprehension (.ListComp elt [⟨tg, iter, ifs, 0⟩] scope pos) scope X.env (firstIterPos [⟨tg, iter, ifs, 0⟩] pos) (newList []) false (eval iter X.env) (some (assign (.Name y py) X.env))) _ _ s
  have h : tLc wi g tt te (own.map (·.2)) σ H (fun x H1 => gName i x σ H1 D.nx) := h
  refine wpAny_bind (thn (lc_hot (Qf := fun _ s' => SP X pins D .next s') hc hN I hi ok hg ht he hs h fun L C s' m H' I' q hn ⟨g0, g1, g2, g3, g4, g5⟩ => ?_) fun _ s' hq => wpAny_pure (wpAny_pure hq))
  show wpAny _ _ (assign (.Name y py) X.env (.ref L)) _ _ _
  refine wpAny_assign_Name (store_ok2 (v := V.ref L) I' hN hy (.inl hyl) rfl (fun s2 I2 ⟨a, sb, ha⟩ => ?_) (.inr hyl))
  have haC : C ≠ a := ha.elim (fun z => by rw [z]; exact g1) fun z e => g4 y a z e.symm
  exact ⟨m, hn.sameBut sb haC, fun h3 sb3 => ⟨_, H', I2.turned (t' := s2.toks) (fun b o hb e => (sb3.2 b hb).trans e) g0 g1 g3 g4 g5, q⟩⟩⟩
end
end VL
set_option Elab.async false
set_option linter.all false
set_option maxRecDepth 100000
set_option maxHeartbeats 4000000
namespace VL
open PySem PySem.Spec PyProof.Rows L2 L2H
variable [CM]
section
variable {K : PySem.W.Frag} {c : VC} {Wx : WX} {X : Cx}
structure FBlkH (X : Cx) (c : VC) (scope : Scope) (own : List (Str × Nat)) (ss : List Nat) (tg elt : Expr) (ifs : List Expr) (g : TG) (vg : GM) (tt : TT) (vt : MT) (te : TE) (ve : ME) : Prop where
  ok : BlkOk X.N X.env.scope scope own
  sub : ∀ j ∈ ss, j ∈ own.map (·.2)
  g : ∀ (s : Shared) (H : Hp) (C : Addr) (cl : List (Str × Addr)) (fp : List Addr) (p : Addr × Obj), Hot1 X.A p → FG (blkH X s H scope (compEnvC scope cl C X.env) fp p) c ss tg g vg
  t : ∀ (s : Shared) (H : Hp) (C : Addr) (cl : List (Str × Addr)) (fp : List Addr) (p : Addr × Obj), Hot1 X.A p → FTs (blkH X s H scope (compEnvC scope cl C X.env) fp p) c W0 ifs tt vt
  e : ∀ (s : Shared) (H : Hp) (C : Addr) (cl : List (Str × Addr)) (fp : List Addr) (p : Addr × Obj), Hot1 X.A p → FE (blkH X s H scope (compEnvC scope cl C X.env) fp p) c W0 elt te ve
variable {vs : List Nat} {scope : Scope} {own : List (Str × Nat)} {ss : List Nat} {tg elt iter : Expr} {ifs : List Expr} {g : TG} {vg : GM} {tt : TT} {vt : MT} {te : TE} {ve : ME} {wi : TI} {vi : MI}
theorem FBlkH.sim (B : FBlkH X c scope own ss tg elt ifs g vg tt vt te ve) (hc : HotC X) (hi : FIH X c Wx tg iter wi vi) : SimE X.K c Wx (tLc wi g tt te (own.map (·.2))) (vLc c (vR vi) (vGm vg) (vR vt) (vR ve) (own.map (·.2))) := by
  obtain ⟨p, hp, _⟩ := hc
  exact sim_lc B.sub hi.sim (B.g {} (fun _ => none) 0 [] [] p hp).sim (B.t {} (fun _ => none) 0 [] [] p hp).sim (B.e {} (fun _ => none) 0 [] [] p hp).sim
theorem fe_lcH {pos : Pos} (hc : HotC X) (nd : X.N.Nodup) (hi : FIH X c Wx tg iter wi vi) (B : FBlkH X c scope own ss tg elt ifs g vg tt vt te ve) (hs : ∀ x, foldedSetIterable iter X.env x = pure x := by intro _; rfl) (hvs : own.map (·.2) = vs := by rfl) :
    FE X c Wx (.ListComp elt [⟨tg, iter, ifs, 0⟩] scope pos) (tLc wi g tt te (own.map (·.2))) (mLc c.fx vi vg vt ve vs) := by
  subst hvs
  exact VE.weak ⟨pe_lcH hc nd hi.pi B.ok (fun s H C cl fp p hp => (B.g s H C cl fp p hp).pg) (fun s H C cl fp p hp => (B.t s H C cl fp p hp).pts) (fun s H C cl fp p hp => (B.e s H C cl fp p hp).pe) hs, B.sim hc hi⟩ fun env Q QX h => po_lc h
theorem fst_setLcH {y : Str} {py pos spos : Pos} (i : Nat) (hc : HotC X) (nd : X.N.Nodup) (hi : FIH X c Wx tg iter wi vi) (B : FBlkH X c scope own ss tg elt ifs g vg tt vt te ve) (hsw : swapsWith (.ListComp elt [⟨tg, iter, ifs, 0⟩] scope pos) (some (.Name y py)) spos.line X.env = pure true) (hx : i ∉ c.fx := by (dsimp only; decide))
    (hy : X.N[i]? = some y := by rfl) (hyl : X.env.scope.names.lookup y = some .local := by rfl) (hs : ∀ x, foldedSetIterable iter X.env x = pure x := by intro _; rfl) (hvs : own.map (·.2) = vs := by rfl) :
    FSt X c Wx (.Assign [.Name y py] (.ListComp elt [⟨tg, iter, ifs, 0⟩] scope pos) spos) (tAsg (tLc wi g tt te (own.map (·.2))) (gName i)) (mSet i (mLc c.fx vi vg vt ve vs)) := by
  subst hvs
  refine VSt.weak ⟨ps_setLcH hc nd hy hyl hsw hi.pi B.ok (fun s H C cl fp p hp => (B.g s H C cl fp p hp).pg) (fun s H C cl fp p hp => (B.t s H C cl fp p hp).pts) (fun s H C cl fp p hp => (B.e s H C cl fp p hp).pe) hs, sim_set (B.sim hc hi)⟩ fun DV env h => ?_
  have h := po_set1 hx h
  exact po_lc h
end
section
variable {prog : Program} {w : World} {A : Around}
theorem walks_listH {x1 : Addr} (I ax : Addr) (hne : ax ≠ I) (hx : x1 ≠ I) (items : Array Value) : Walks prog w A I [I, ax, x1] [I] items.size (fun i v => items[i]? = some v) (fun i h => (h.IsListIter I ax i ∧ h.IsList ax items) ∧ HotX.HotAt A x1 h) where
  sub := fun b hb => by rw [List.mem_singleton.mp hb]; simp
  frame := fun _ _ _ st hk => ⟨⟨st.1.1.at fun o e => hk I (by simp) o e, st.1.2.at fun o e => hk ax (by simp) o e⟩, by
    obtain ⟨hh, o, vs, e, d, c⟩ := st.2
    exact ⟨hh, o, vs, hk x1 (by simp) o e, d, c⟩⟩
  item := fun i s Q E hi st hQ => wpAny_pyNext_list_item st.1.1 st.1.2 (x := items[i]) (by simp [hi]) fun h' hit' hs' =>
    hQ _ h' s.toks (by simp [hi]) ⟨⟨hit', st.1.2.extBut hs'.extBut hne⟩, hot_but st.2 hx fun b o hb e => hs'.extBut b o hb e⟩ fun b o hb e => hs'.extBut b o (fun h => hb (by simp [h])) e
  done := fun s Q E st hQ => list_end_hot st.2 hx st.1.1 st.1.2 (by simp) fun h' he' => hQ h' s.toks fun b o hb e => he' b o (fun h => hb (by simp [h])) e
  self := fun _ _ _ _ st hQ => wpAny_pyIter_listiter st.1.1 hQ
end
section
variable {X : Cx}
theorem hot_in1 {pins : List (Addr × Obj)} {σ : L2.St} {H : Hp} {s : Shared} (hc : HotC X) (I : Inv X pins σ H s) : ∃ x1, x1 < s.heap.objs.size ∧ HotX.HotAt X.A.in1 x1 s.heap := by
  obtain ⟨x1, hh, o, vs, e, d, c⟩ := hc.at I
  exact ⟨x1, Heap.lt_size e, hh, o, vs, e, d, c⟩
theorem cr_allH (hc : HotC X) : CallR X (.builtin "all") (rAll X.K) := by
  rintro pins s σ H vs us Q I r ⟨a, bs, rfl, hs, q⟩
  obtain ⟨its, rv, hl, _⟩ := I.list hs
  rw [Vals.ref1 r]
  have hb := rv.bls
  obtain ⟨x1, lt1, hot⟩ := hot_in1 hc I
  refine call_all_walk (iter_any hl.isList fun s₂ e2 st hne => ?_)
  subst e2
  refine ⟨_, _, _, _, _, _, _, rfl, walks_listH (A := X.A.in1) (x1 := x1) _ a hne (Nat.ne_of_lt lt1) its.toArray, ⟨st, ?_⟩, truth_bools hb, fun h' tk hk => ?_⟩
  · obtain ⟨hh, o, vs, e, d, c⟩ := hot
    exact ⟨hh, o, vs, Heap.get?_push_of_some _ e, d, c⟩
  · refine ⟨.bl _, H, I.kept fun b o eo => hk b o (fun hmem => ?_) (Heap.get?_push_of_some _ eo), ?_, q⟩
    · rw [List.mem_singleton] at hmem
      exact absurd (hmem ▸ Heap.lt_size eo) (Nat.lt_irrefl _)
    · show Value.bool _ = Value.bool _
      rw [← L2.all_range, hb, List.size_toArray, List.length_map]
variable {c : VC} {Wx : WX} {e : Expr} {p pos : Pos} {t : TA} {v : MA}
theorem fe_allH (hc : HotC X) (hm : X.mg "all" = none) (ha : FA X c Wx [e] t v) (hg : Gl X "all" := by rfl) (he : starEach [e] X.env = (false, eval e X.env) :: starEach [] X.env := by rfl) (hpl : (backTo pos (starEach [] X.env)).any (·.1) = false := by rfl) : FE X c Wx (.Call (.Name "all" p) [e] [] pos) (tCB (rAll X.K) t) (mCB fAll v) :=
  (ve_callB (cr_allH hc) calls_all hm (by decide +kernel) ha hg (by decide) (by decide) he hpl).weak fun _ _ _ h => po_cb cbf_all h
end
end VL
set_option Elab.async false
set_option linter.all false
set_option maxRecDepth 100000
set_option maxHeartbeats 4000000
namespace VL
open PySem PySem.Spec PyProof.Rows L2
noncomputable def B_law_leaf_rows_1 : MS := (mKill [2, 3] (mSeq (mSet 3 (mSS splitS (mOp fIx (mName 0) (mName 2)) (mC (.str "/"))))
    (mSeq (mIfS (mOrT (mTst (mOp (fEq true) (mCB fLen (mCons (mName 3) mNil)) (mName 1))) (mNotT (mTst (mCB fAll (mCons (mLc [] (mIt (mName 3)) (gmName 4) mYes (mCall F_law_is_word (mCons (mName 4) mNil)) [4]) mNil))))) (mRet [] (mC (.bl false))) mNext)
    (mIfS (mAndT (mTst (mOp fGt (mName 2) (mC (.int 0)))) (mTst (mOp fLe (mOp fIx (mName 0) (mName 2)) (mOp fIx (mName 0) (mOp fSub (mName 2) (mC (.int 1))))))) (mRet [] (mC (.bl false))) mNext))))
noncomputable def F_law_leaf_rows : FN := fnM 1 5 [] (mSeq (mIfS (mOrT (mTst (mOp fLt (mCB fLen (mCons (mName 0) mNil)) (mC (.int 2)))) (mTst (mOp fGt (mCB fLen (mCons (mName 0) mNil)) (mC (.int 8))))) (mRet [] (mC (.bl false))) mNext)
    (mSeq (mSet 1 (mCB fLen (mCons (mSS splitS (mOp fIx (mName 0) (mC (.int 0))) (mC (.str "/"))) mNil)))
    (mSeq (mIfS (mTst (mOp fGt (mName 1) (mC (.int 3)))) (mRet [] (mC (.bl false))) mNext)
    (mSeq (mFor (mRng (mCons (mCB fLen (mCons (mName 0) mNil)) mNil)) (gmName 2) B_law_leaf_rows_1)
    (mRet [] (mC (.bl true)))))))
noncomputable def B_law_are_dimensions_1 : MS := (mKill [4] (mSeq (mIfS (mOrT (mNotT (mTst (mCall F_law_is_word (mCons (mOp fIx (mName 1) (mName 4)) mNil)))) (mOrT (mTst (mOp (fIn false) (mOp fIx (mName 1) (mName 4)) (mSl (mName 1) mNoPart (mPart (mName 4))))) (mNotT (mTst (mCall F_law_leaf_rows (mCons (mOp fIx (mOp fIx (mName 0) (mName 4)) (mC (.int 1))) mNil)))))) (mRet [] (mC (.bl false))) mNext)
    (mSet 3 (mOp fMul (mName 3) (mCB fLen (mCons (mOp fIx (mOp fIx (mName 0) (mName 4)) (mC (.int 1))) mNil))))))
noncomputable def F_law_are_dimensions : FN := fnM 1 5 [] (mSeq (mIfS (mOrT (mTst (mOp fLt (mCB fLen (mCons (mName 0) mNil)) (mC (.int 1)))) (mTst (mOp fGt (mCB fLen (mCons (mName 0) mNil)) (mC (.int 3))))) (mRet [] (mC (.bl false))) mNext)
    (mSeq (mSet 1 (mLc [] (mIt (mName 0)) (gmName 2) mYes (mOp fIx (mName 2) (mC (.int 0))) [2]))
    (mSeq (mSet 3 (mC (.int 1)))
    (mSeq (mFor (mRng (mCons (mCB fLen (mCons (mName 0) mNil)) mNil)) (gmName 4) B_law_are_dimensions_1)
    (mRet [] (mOp fLe (mName 3) (mC (.int 48))))))))
noncomputable def E_law_changed_leaves_1 : ME := (mOp fAdd (mOp fAdd (mName 6) (mC (.str "/"))) (mCall F_law_word (mCons (mName 0) (mCons (mLst mNil) mNil))))
noncomputable def F_law_changed_leaves : FN := fnM 2 10 [0] (mSeq (mOwn 2 (mCB fList (mCons (mName 1) mNil)))
    (mSeq (mSet 3 (mCall F_law_draw (mCons (mName 0) (mCons (mCB fLen (mCons (mName 2) mNil)) mNil))))
    (mSeq (mSet 4 (mCall F_law_draw (mCons (mName 0) (mCons (mCB fLen (mCons (mName 2) mNil)) mNil))))
    (mSeq (mSet 5 (mCall F_law_draw (mCons (mName 0) (mCons (mC (.int 8)) mNil))))
    (mSeq (mKill [7, 8] (mIfS (mTst (mOp (fEq false) (mName 5) (mC (.int 0)))) (mOwn 2 (mSl (mName 2) mNoPart (mPart (mC (.int 1))))) (mKill [7, 8] (mIfS (mTst (mOp (fEq false) (mName 5) (mC (.int 1)))) (mSeq (mAsg (mOp fIx (mName 1) (mName 4)) (gmSub (mName 2) (mName 3)))
    (mAsg (mOp fIx (mName 1) (mName 3)) (gmSub (mName 2) (mName 4)))) (mKill [7, 8] (mIfS (mTst (mOp (fEq false) (mName 5) (mC (.int 2)))) (mOwn 2 (mOp fAdd (mOp fAdd (mSl (mName 2) mNoPart (mPart (mName 3))) (mLst (mCons (mOp fIx (mName 2) (mName 3)) mNil))) (mSl (mName 2) (mPart (mName 3)) mNoPart))) (mKill [7, 8] (mIfS (mTst (mOp (fEq false) (mName 5) (mC (.int 3)))) (mOwn 2 (mLc [0] (mIt (mName 2)) (gmName 6) mYes E_law_changed_leaves_1 [6])) (mKill [7, 8] (mIfS (mTst (mOp (fEq false) (mName 5) (mC (.int 4)))) (mAsg (mOp fAdd (mOp fAdd (mOp fIx (mName 2) (mName 3)) (mC (.str "/"))) (mCall F_law_word (mCons (mName 0) (mCons (mLst mNil) mNil)))) (gmSub (mName 2) (mName 3))) (mKill [7, 8] (mIfS (mTst (mOp (fEq false) (mName 5) (mC (.int 5)))) (mSeq (mOwn 7 (mSS splitS (mOp fIx (mName 2) (mName 3)) (mC (.str "/"))))
    (mSeq (mAsg (mCall F_law_a_text (mCons (mName 0) mNil)) (gmSub (mName 7) (mCall F_law_draw (mCons (mName 0) (mCons (mCB fLen (mCons (mName 7) mNil)) mNil)))))
    (mAsg (mSM fJoin (mC (.str "/")) (mName 7)) (gmSub (mName 2) (mName 3))))) (mKill [8] (mIfS (mTst (mOp (fEq false) (mName 5) (mC (.int 6)))) (mSeq (mSet 8 (mC (.str "abcdefghijklmnopqrstuvwxyz")))
    (mOwn 2 (mLc [0] (mRng (mCons (mOp fAdd (mC (.int 7)) (mCall F_law_draw (mCons (mName 0) (mCons (mC (.int 4)) mNil)))) mNil)) (gmName 9) mYes (mOp fIx (mName 8) (mName 9)) [9]))) (mAsg (mC (.str "")) (gmSub (mName 2) (mName 3)))))))))))))))))
    (mRet [0] (mCB fTuple (mCons (mName 2) mNil))))))))
noncomputable def F_law_changed : FN := fnM 2 5 [0] (mSeq (mSet 2 (mCall F_law_draw (mCons (mName 0) (mCons (mCB fLen (mCons (mName 1) mNil)) mNil))))
    (mSeq (mSet 3 (mCall F_law_draw (mCons (mName 0) (mCons (mC (.int 7)) mNil))))
    (mSeq (mIfS (mTst (mOp (fEq false) (mName 3) (mC (.int 0)))) (mRet [0] (mSl (mName 1) mNoPart (mPart (mName 2)))) mNext)
    (mSeq (mIfS (mTst (mOp (fEq false) (mName 3) (mC (.int 1)))) (mRet [0] (mOp fAdd (mOp fAdd (mSl (mName 1) mNoPart (mPart (mName 2))) (mLst (mCons (mTup (mCons (mCall F_law_a_text (mCons (mName 0) mNil)) (mCons (mOp fIx (mOp fIx (mName 1) (mName 2)) (mC (.int 1))) mNil))) mNil))) (mSl (mName 1) (mPart (mOp fAdd (mName 2) (mC (.int 1)))) mNoPart))) mNext)
    (mSeq (mIfS (mTst (mOp (fEq false) (mName 3) (mC (.int 2)))) (mRet [0] (mOp fAdd (mName 1) (mLst (mCons (mTup (mCons (mCall F_law_word (mCons (mName 0) (mCons (mLc [0] (mIt (mName 1)) (gmName 4) mYes (mOp fIx (mName 4) (mC (.int 0))) [4]) mNil))) (mCons (mOp fIx (mOp fIx (mName 1) (mName 2)) (mC (.int 1))) mNil))) mNil)))) mNext)
    (mSeq (mIfS (mTst (mOp (fEq false) (mName 3) (mC (.int 3)))) (mRet [0] (mOp fAdd (mName 1) (mLst (mCons (mOp fIx (mName 1) (mName 2)) mNil)))) mNext)
    (mRet [0] (mOp fAdd (mOp fAdd (mSl (mName 1) mNoPart (mPart (mName 2))) (mLst (mCons (mTup (mCons (mOp fIx (mOp fIx (mName 1) (mName 2)) (mC (.int 0))) (mCons (mCall F_law_changed_leaves (mCons (mName 0) (mCons (mOp fIx (mOp fIx (mName 1) (mName 2)) (mC (.int 1))) mNil))) mNil))) mNil))) (mSl (mName 1) (mPart (mOp fAdd (mName 2) (mC (.int 1)))) mNoPart)))))))))
noncomputable def B_law_k03_1 : MS := (mKill [3] (mIfS (mTst (mOp fGt (mCB fLen (mCons (mName 1) mNil)) (mC (.int 0)))) (mSet 1 (mCall F_law_changed (mCons (mName 2) (mCons (mName 1) mNil)))) mNext))
noncomputable def F_law_k03 : FN := fnM 1 7 [] (mSeq (mSet 1 (mCB fList (mCons (mCall F_law_wide (mCons (mName 0) (mCons (mC (.int 0)) (mCons (mC (.int 48)) mNil)))) mNil)))
    (mSeq (mOwn 2 (mCall F_law_box (mCons (mName 0) (mCons (mC (.int 5)) mNil))))
    (mSeq (mFor (mRng (mCons (mCall F_law_draw (mCons (mName 2) (mCons (mC (.int 3)) mNil))) mNil)) (gmName 3) B_law_k03_1)
    (mSeq (mSet 4 (mCB fTuple (mCons (mName 1) mNil)))
    (mSeq (mTryF 6 "CubeError" (mSet 5 (mMake F_Space___init "Space" (mCons (mName 4) mNil))) fun C fs => (mRet [6] (mAndV (mIsE (isXb C "BadDimensions")) (mAndV (mIsE true) (mNotV (mCall F_law_are_dimensions (mCons (mName 4) mNil)))))))
    (mRet [] (mAndV (mCall F_law_are_dimensions (mCons (mName 4) mNil)) (mCall (F_law_same 4) (mCons (mFld "Space" "dimensions" (mName 5)) (mCons (mName 4) mNil))))))))))
variable [CM]
abbrev Raw : Type := List Nat × List (List Nat)
def rD (x : Raw) : D := .tup [dT x.1, txD x.2]
def okR (N : Nat) (x : Raw) : Prop := x.1.length ≤ N ∧ 1 ≤ x.2.length ∧ x.2.length ≤ N ∧ ∀ t ∈ x.2, t.length ≤ N
def okA (N : Nat) (A : List Raw) : Prop := A.length ≤ N ∧ ∀ x ∈ A, okR N x
theorem okR.mono {N M : Nat} {x : Raw} (h : okR N x) (hm : N ≤ M) : okR M x := ⟨Nat.le_trans h.1 hm, h.2.1, Nat.le_trans h.2.2.1 hm, fun t ht => Nat.le_trans (h.2.2.2 t ht) hm⟩
theorem law_leaf_rowsT {q : List (List Nat)} (hl : q.length ≤ 1000) (ht : okTL q) : F_law_leaf_rows [.val (txD q)] = .ok (.val (.bl (leavesB q))) [.val (txD q)] := by
  unfold leavesB
  by_cases h1 : q.length < 2
  · have h2 : ¬ 2 ≤ q.length := by omega
    have h3 : q.length ≤ 16777216 := by omega
    simp [F_law_leaf_rows, h1, h2, h3]
  by_cases h1' : 8 < q.length
  · have h2 : ¬ q.length ≤ 8 := by omega
    have h3 : q.length ≤ 16777216 := by omega
    simp [F_law_leaf_rows, h1, h1', h2, h3]
  have h2 : 2 ≤ q.length := by omega
  have h2' : q.length ≤ 8 := by omega
  have h3 : q.length ≤ 16777216 := by omega
  have h4 : q.length < 4611686018427387904 := by omega
  have a0 := atT (q := q) (i := 0) (by omega)
  have a0 : atI (q.map dT) 0 = some (dT (tAt q 0)) := a0
  have m0 := getD_mem (q := q) (i := 0) (by omega)
  have l0 : (tAt q 0).length ≤ 16777214 := by have := ht _ m0; omega
  have hsl : ∀ t ∈ q, (spT t).length ≤ 16777216 := fun t h => by
    have h6 : (spT t).length ≤ t.length + 1 := spl_len [47] t 0 []
    have := ht t h
    omega
  have hs0 := hsl _ m0
  generalize hd : (spT (tAt q 0)).length = d at *
  by_cases h5 : 3 < d
  · have h5' : ¬ d ≤ 3 := by omega
    simp [F_law_leaf_rows, h1, h1', h2, h2', h3, a0, slash_tx, l0, split_tx, hd, hs0, h5, h5']
  have h5' : d ≤ 3 := by omega
  have key := loop_refG (g := gmName 2) (b := B_law_leaf_rows_1) (fun _ : List Nat => [some (.val (txD q)), some (.val (.int (d : Nat))), none, none, none]) (fun i => okAt q i = true) (fun r => ∃ e, r = .rt (.val (.bl false)) e) (by rintro r f ⟨e, rfl⟩; rfl) (fun i : Nat => D.int i) (List.range q.length) (by
      intro pre i post e
      have hi : i < q.length := by
        have : i ∈ List.range q.length := by rw [e]; simp
        simpa using this
      have ai := atT hi
      have mi := getD_mem hi
      have li : (tAt q i).length ≤ 16777214 := by have := ht _ mi; omega
      have hwi := hsl _ mi
      have hws : ∀ w ∈ spT (tAt q i), w.length ≤ 16777216 := by
        intro w hw
        have h7 := pathT_mem_len hw
        rw [spT_path] at h7
        have := ht _ mi
        omega
      have hok : okAt q i = (decide ((spT (tAt q i)).length = d) && (spT (tAt q i)).all isWord && ascB q i) := by
        unfold okAt leafB
        rw [hd]
      have hsp : Txt.split (tx (tAt q i)) (tx [47]) = (spT (tAt q i)).map tx := split_tx (tAt q i)
      rw [hok]
      generalize hwq : spT (tAt q i) = ws at *
      by_cases c1 : ws.length = d
      · have hwd : d ≤ 16777216 := by omega
        have hall : ∀ z : Option M, compM (gmName 4) mYes (mCall F_law_is_word (mCons (mName 4) mNil)) [4] (ws.map (D.str ∘ tx)) [some (.val (txD q)), some (.val (.int (d : Nat))), z, some (.val (.lst (ws.map (D.str ∘ tx)))), none] = .ok (ws.map fun w => D.bl (isWord w)) [some (.val (txD q)), some (.val (.int (d : Nat))), z, some (.val (.lst (ws.map (D.str ∘ tx)))), none] := by
          intro z
          refine comp_map (en := D.str ∘ tx) (f := fun w => D.bl (isWord w)) ws fun w hw => ?_
          simp [law_is_word_eq w (hws w hw)]
        cases c2 : ws.all isWord with
        | false =>
          simp only [c1]
          simp [B_law_leaf_rows_1, ai, slash_tx, li, hsp, hwd, c1, hall, c2]
        | true =>
          cases i with
          | zero =>
            have ai0 : atI (q.map dT) 0 = some (dT (tAt q 0)) := ai
            simp only [c1, ascB]
            simp [B_law_leaf_rows_1, ai0, slash_tx, li, hsp, hwd, c1, hall, c2]
          | succ j =>
            have aj := atT (q := q) (i := j) (by omega)
            have ai' : atI (q.map dT) ((j : Int) + 1) = some (dT (tAt q (j + 1))) := ai
            have hp : (0 : Int) < (j : Int) + 1 := by omega
            cases c3 : strLt (tx (tAt q j)) (tx (tAt q (j + 1))) with
            | false =>
              have hA : ascB q (j + 1) = false := c3
              simp only [c1, hA]
              simp [B_law_leaf_rows_1, ai', aj, slash_tx, li, hsp, hwd, c1, hall, hp, c2, c3]
            | true =>
              have hA : ascB q (j + 1) = true := c3
              simp only [c1, hA]
              simp [B_law_leaf_rows_1, ai', aj, slash_tx, li, hsp, hwd, c1, hall, hp, c2, c3]
      · have c1i : ¬ ((ws.length : Int) = (d : Int)) := by omega
        simp only [c1]
        simp [B_law_leaf_rows_1, ai, slash_tx, li, hsp, hwi, c1, c1i])
  simp [F_law_leaf_rows, h1, h1', h2, h2', h3, h4, a0, slash_tx, l0, split_tx, hd, hs0, h5, h5']
  by_cases hA : ∀ i ∈ List.range q.length, okAt q i = true
  · rw [key.1 hA]
    have : (List.range q.length).all (okAt q) = true := List.all_eq_true.mpr hA
    simp [this]
  · obtain ⟨e, he⟩ := key.2 hA
    rw [he]
    have : (List.range q.length).all (okAt q) = false := by
      apply Bool.eq_false_iff.mpr
      intro h
      exact hA (List.all_eq_true.mp h)
    simp [this]
def aAt (A : List Raw) (i : Nat) : Raw := A.getD i ([], [])
def nmAt (A : List Raw) (i : Nat) : List Nat := (aAt A i).1
def lvAt (A : List Raw) (i : Nat) : List (List Nat) := (aAt A i).2
def nmsTo (A : List Raw) (i : Nat) : List (List Nat) := (List.range i).map (nmAt A)
def okD (A : List Raw) (i : Nat) : Bool := isWord (nmAt A i) && !decide (nmAt A i ∈ nmsTo A i) && leavesB (lvAt A i)
def cellsR (A : List Raw) : Nat → Nat
  | 0 => 1
  | i + 1 => cellsR A i * (lvAt A i).length
def dimsB (A : List Raw) : Bool := decide (1 ≤ A.length) && decide (A.length ≤ 3) && (List.range A.length).all (okD A) && decide (cellsR A A.length ≤ 48)
theorem aAt_get {A : List Raw} {i : Nat} (h : i < A.length) : A[i]? = some (aAt A i) := by
  unfold aAt; rw [List.getElem?_eq_getElem h]; simp [h]
theorem aAt_mem {A : List Raw} {i : Nat} (h : i < A.length) : aAt A i ∈ A := List.mem_of_getElem? (aAt_get h)
theorem nms_take {A : List Raw} {i : Nat} (h : i ≤ A.length) : (A.map fun x => dT x.1).take i = (nmsTo A i).map dT := by
  apply List.ext_getElem?
  intro j
  unfold nmsTo
  rw [List.map_map, List.getElem?_map, List.getElem?_take]
  by_cases hj : j < i
  · rw [if_pos hj, List.getElem?_map, aAt_get (by omega), List.getElem?_range hj]; rfl
  · rw [if_neg hj, List.getElem?_eq_none (by simp; omega)]; rfl
theorem raws_range (A : List Raw) : A.map rD = (List.range A.length).map fun i => rD (aAt A i) := by
  apply List.ext_getElem?
  intro j
  rw [List.getElem?_map, List.getElem?_map]
  by_cases hj : j < A.length
  · rw [aAt_get hj, List.getElem?_range hj]; rfl
  · rw [List.getElem?_eq_none (by omega), List.getElem?_eq_none (by simp; omega)]; rfl
theorem nms_snoc (A : List Raw) (i : Nat) : nmsTo A (i + 1) = nmsTo A i ++ [nmAt A i] := by
  unfold nmsTo; rw [List.range_succ, List.map_append]; rfl
theorem nmsTo_len (A : List Raw) (i : Nat) : (nmsTo A i).length = i := by simp [nmsTo]
theorem raw_at {A : List Raw} {i : Nat} (h : i < A.length) : atI (A.map rD) (i : Int) = some (.tup [dT (nmAt A i), txD (lvAt A i)]) :=
  atI_nat (by rw [List.getElem?_map, aAt_get h]; rfl)
theorem name_at {A : List Raw} {i : Nat} (h : i < A.length) : atI (A.map fun x => dT x.1) (i : Int) = some (dT (nmAt A i)) :=
  atI_nat (by rw [List.getElem?_map, aAt_get h]; rfl)
theorem law_are_dimensionsT {A : List Raw} {N : Nat} (hN : N ≤ 1000) (hA : okA N A) : F_law_are_dimensions [.val (.tup (A.map rD))] = .ok (.val (.bl (dimsB A))) [.val (.tup (A.map rD))] := by
  have hlen := hA.1
  have h3 : A.length ≤ 16777216 := by omega
  unfold dimsB
  by_cases h1 : A.length < 1
  · have h2 : ¬ 1 ≤ A.length := by omega
    simp [F_law_are_dimensions, h1, h2, h3]
  by_cases h1' : 3 < A.length
  · have h2 : ¬ A.length ≤ 3 := by omega
    simp [F_law_are_dimensions, h1, h1', h2, h3]
  have h2 : 1 ≤ A.length := by omega
  have h2' : A.length ≤ 3 := by omega
  have h4 : A.length < 4611686018427387904 := by omega
  have key := loop_refG (g := gmName 4) (b := B_law_are_dimensions_1) (fun pre : List Nat => [some (.val (.tup (A.map rD))), some (.val (.lst (A.map fun x => dT x.1))), none, some (.val (.int (cellsR A pre.length : Nat))), none]) (fun i => okD A i = true) (fun r => ∃ e, r = .rt (.val (.bl false)) e) (by rintro r f ⟨e, rfl⟩; rfl) (fun i : Nat => D.int i) (List.range A.length) (by
      intro pre i post e
      obtain ⟨hpre, hi⟩ := rng_at e
      subst hpre
      have ar := raw_at hi
      have an := name_at hi
      obtain ⟨k1, k2, k3, k4⟩ := hA.2 _ (aAt_mem hi)
      have hw := law_is_word_eq (nmAt A pre.length) (by show (aAt A pre.length).1.length ≤ _; omega)
      have hq := law_leaf_rowsT (q := lvAt A pre.length) (by show (aAt A pre.length).2.length ≤ _; omega) (fun t ht => by have := k4 t ht; omega)
      have hcut : cutD (A.map fun x => dT x.1) none (some (pre.length : Int)) = (nmsTo A pre.length).map dT := by rw [cutD_to, nms_take (by omega)]
      have hin : inSeq (dT (nmAt A pre.length)) ((nmsTo A pre.length).map dT) = some (decide (nmAt A pre.length ∈ nmsTo A pre.length)) := inSeq_tx _ _
      have hll : (lvAt A pre.length).length ≤ 1000 := by show (aAt A pre.length).2.length ≤ _; omega
      have hll2 : (lvAt A pre.length).length ≤ 16777216 := by omega
      have hmul : -18446744073709551616 < ((lvAt A pre.length).length : Int) ∧ ((lvAt A pre.length).length : Int) < 18446744073709551616 := by omega
      have hcs : ((cellsR A (pre.length + 1) : Nat) : Int) = (cellsR A pre.length : Int) * ((lvAt A pre.length).length : Int) := by rw [cellsR]; simp
      unfold okD
      cases b1 : isWord (nmAt A pre.length) with
      | false =>
        rw [b1] at hw
        simp [B_law_are_dimensions_1, an, hw]
      | true =>
        rw [b1] at hw
        by_cases b2 : nmAt A pre.length ∈ nmsTo A pre.length
        · simp [B_law_are_dimensions_1, an, hw, hcut, hin, b2]
        · cases b3 : leavesB (lvAt A pre.length) with
          | false =>
            rw [b3] at hq
            simp [B_law_are_dimensions_1, an, hw, hcut, hin, b2, ar, hq]
          | true =>
            rw [b3] at hq
            simp [B_law_are_dimensions_1, an, hw, hcut, hin, b2, ar, hq, hll2, hmul, hcs])
  have hcm : compM (gmName 2) mYes (mOp fIx (mName 2) (mC (.int 0))) [2] (A.map rD) [some (.val (.tup (A.map rD))), none, none, none, none] = .ok (A.map fun x => dT x.1) [some (.val (.tup (A.map rD))), none, none, none, none] := by
    refine comp_map (en := rD) (f := fun x : Raw => dT x.1) A fun x hx => ?_
    simp [rD]
  rw [show ((cellsR A ([] : List Nat).length : Nat) : Int) = 1 from rfl, List.length_range] at key
  simp [F_law_are_dimensions, h1, h1', h2, h2', h3, h4, hcm]
  by_cases hA' : ∀ i ∈ List.range A.length, okD A i = true
  · rw [key.1 hA']
    have : (List.range A.length).all (okD A) = true := List.all_eq_true.mpr hA'
    simp [this]
  · obtain ⟨e, he⟩ := key.2 hA'
    rw [he]
    have : (List.range A.length).all (okD A) = false := by
      apply Bool.eq_false_iff.mpr
      intro h
      exact hA' (List.all_eq_true.mp h)
    simp [this]
noncomputable def PB_dims : MS := mKill [3, 4] (mSeq (mIfS (mOrT (mNotT (mTst (mCall F_is_word (mCons (mName 3) mNil)))) (mOrT (mTst (mOp (fIn false) (mName 3) (mName 2))) (mNotT (mTst (mCall F_are_leaves (mCons (mName 4) mNil)))))) (mRet [] (mC (.bl false))) mNext)
    (mSeq (mExpr (mApp (mName 2) (mName 3)))
    (mSet 1 (mOp fMul (mName 1) (mCB fLen (mCons (mName 4) mNil))))))
theorem are_dimensionsT {A : List Raw} {N : Nat} (hN : N ≤ 1000) (hA : okA N A) : F_are_dimensions [.val (.tup (A.map rD))] = .ok (.val (.bl (dimsB A))) [.val (.tup (A.map rD))] := by
  have hlen := hA.1
  have h3 : A.length ≤ 16777216 := by omega
  unfold dimsB
  by_cases h1 : A.length < 1
  · have h2 : ¬ 1 ≤ A.length := by omega
    simp [F_are_dimensions, h1, h2, h3]
  by_cases h1' : 3 < A.length
  · have h2 : ¬ A.length ≤ 3 := by omega
    simp [F_are_dimensions, h1, h1', h2, h3]
  have h2 : 1 ≤ A.length := by omega
  have h2' : A.length ≤ 3 := by omega
  have key := loop_refG (g := gmTup 2 (gmCons (gmName 3) (gmCons (gmName 4) gmNil))) (b := PB_dims) (fun pre : List Nat => [some (.val (.tup (A.map rD))), some (.val (.int (cellsR A pre.length : Nat))), some (.own (.lst ((nmsTo A pre.length).map dT))), none, none]) (fun i => okD A i = true) (fun r => ∃ e, r = .rt (.val (.bl false)) e) (by rintro r f ⟨e, rfl⟩; rfl) (fun i : Nat => rD (aAt A i)) (List.range A.length) (by
      intro pre i post e
      obtain ⟨hpre, hi⟩ := rng_at e
      subst hpre
      obtain ⟨k1, k2, k3, k4⟩ := hA.2 _ (aAt_mem hi)
      have hw := is_word_eq (nmAt A pre.length) (by show (aAt A pre.length).1.length ≤ _; omega)
      have hq := are_leavesT (q := lvAt A pre.length) (by show (aAt A pre.length).2.length ≤ _; omega) (fun t ht => by have := k4 t ht; omega)
      have hin : inSeq (dT (nmAt A pre.length)) ((nmsTo A pre.length).map dT) = some (decide (nmAt A pre.length ∈ nmsTo A pre.length)) := inSeq_tx _ _
      have hll : (lvAt A pre.length).length ≤ 1000 := by show (aAt A pre.length).2.length ≤ _; omega
      have hll2 : (lvAt A pre.length).length ≤ 16777216 := by omega
      have hmul : -18446744073709551616 < ((lvAt A pre.length).length : Int) ∧ ((lvAt A pre.length).length : Int) < 18446744073709551616 := by omega
      have hcs : ((cellsR A (pre.length + 1) : Nat) : Int) = (cellsR A pre.length : Int) * ((lvAt A pre.length).length : Int) := by rw [cellsR]; simp
      have hnl : (nmsTo A pre.length).length < 16777216 := by rw [nmsTo_len]; omega
      have er : rD (aAt A pre.length) = .tup [dT (nmAt A pre.length), txD (lvAt A pre.length)] := rfl
      rw [er]
      unfold okD
      cases b1 : isWord (nmAt A pre.length) with
      | false =>
        rw [b1] at hw
        simp [PB_dims, hw]
      | true =>
        rw [b1] at hw
        by_cases b2 : nmAt A pre.length ∈ nmsTo A pre.length
        · simp [PB_dims, hw, hin, b2]
        · cases b3 : leavesB (lvAt A pre.length) with
          | false =>
            rw [b3] at hq
            simp [PB_dims, hw, hin, b2, hq]
          | true =>
            rw [b3] at hq
            simp [PB_dims, hw, hin, b2, hq, hll2, hmul, hcs, hnl, nms_snoc])
  rw [show ((cellsR A ([] : List Nat).length : Nat) : Int) = 1 from rfl, List.length_range, show (nmsTo A ([] : List Nat).length).map dT = [] from rfl, ← raws_range] at key
  unfold PB_dims at key
  simp [F_are_dimensions, h1, h1', h2, h2', h3]
  by_cases hA' : ∀ i ∈ List.range A.length, okD A i = true
  · rw [key.1 hA']
    have : (List.range A.length).all (okD A) = true := List.all_eq_true.mpr hA'
    simp [this]
  · obtain ⟨e, he⟩ := key.2 hA'
    rw [he]
    have : (List.range A.length).all (okD A) = false := by
      apply Bool.eq_false_iff.mpr
      intro h
      exact hA' (List.all_eq_true.mp h)
    simp [this]
def dimO (x : Raw) : Dim := ⟨x.1, x.2.map spT, (spT (tAt x.2 0)).length⟩
theorem dimO_d (x : Raw) : (dimO x).d = rD x := by
  unfold dimO Dim.d rD
  simp only [List.map_map]
  congr 3
  have : (leafD ∘ spT) = dT := by
    funext t
    show dT (pathT (spT t)) = dT t
    rw [spT_path]
  rw [this]
theorem leavesB_good {q : List (List Nat)} (h : leavesB q = true) : GoodL (q.map spT) (spT (tAt q 0)).length := by
  unfold leavesB at h
  simp only [Bool.and_eq_true, decide_eq_true_eq, List.all_eq_true, List.mem_range] at h
  obtain ⟨⟨⟨h1, h2⟩, h3⟩, h4⟩ := h
  refine ⟨by simpa using h1, by simpa using h2, List.length_pos_iff.mpr (spT_ne _), h3, fun ws hw => ?_, fun i a b ha hb => ?_⟩
  · obtain ⟨t, ht, rfl⟩ := List.mem_map.mp hw
    obtain ⟨i, hi⟩ := List.mem_iff_getElem?.mp ht
    have hil := (List.getElem?_eq_some_iff.mp hi).1
    have e : tAt q i = t := by unfold tAt; rw [List.getD_eq_getElem?_getD, hi]; rfl
    have := h4 i hil
    unfold okAt leafB at this
    rw [e] at this
    simp only [Bool.and_eq_true, decide_eq_true_eq, List.all_eq_true] at this
    exact ⟨this.1.1, this.1.2⟩
  · rw [List.getElem?_map] at ha hb
    obtain ⟨ta, hta, rfl⟩ := Option.map_eq_some_iff.mp ha
    obtain ⟨tb, htb, rfl⟩ := Option.map_eq_some_iff.mp hb
    have hil := (List.getElem?_eq_some_iff.mp htb).1
    have := h4 (i + 1) hil
    unfold okAt at this
    simp only [Bool.and_eq_true] at this
    have h5 : strLt (tx (q.getD i [])) (tx (q.getD (i + 1) [])) = true := this.2
    rw [List.getD_eq_getElem?_getD, hta, List.getD_eq_getElem?_getD, htb] at h5
    rw [spT_path, spT_path]
    exact h5
theorem cellsR_eq (A : List Raw) : ∀ k, k ≤ A.length → cellsN ((A.take k).map dimO) = cellsR A k
  | 0, _ => rfl
  | k + 1, h => by
    have ih := cellsR_eq A k (by omega)
    have e : A.take (k + 1) = A.take k ++ [aAt A k] := by
      rw [List.take_add_one, aAt_get (by omega)]; rfl
    rw [e, List.map_append]
    show cellsN (List.map dimO (A.take k) ++ [dimO (aAt A k)]) = _
    rw [cells_snoc, ih, cellsR]
    congr 1
    show (List.map spT (aAt A k).2).length = _
    rw [List.length_map]; rfl
theorem dimsB_good {A : List Raw} (h : dimsB A = true) : GoodD (A.map dimO) := by
  unfold dimsB at h
  simp only [Bool.and_eq_true, decide_eq_true_eq, List.all_eq_true, List.mem_range] at h
  obtain ⟨⟨⟨h1, h2⟩, h3⟩, h4⟩ := h
  have hd : ∀ i < A.length, isWord (nmAt A i) = true ∧ nmAt A i ∉ nmsTo A i ∧ leavesB (lvAt A i) = true := fun i hi => by
    have := h3 i hi
    unfold okD at this
    simp only [Bool.and_eq_true, Bool.not_eq_true', decide_eq_false_iff_not] at this
    exact ⟨this.1.1, this.1.2, this.2⟩
  refine ⟨by simpa using h1, by simpa using h2, fun m hm => ?_, ?_, ?_⟩
  · obtain ⟨x, hx, rfl⟩ := List.mem_map.mp hm
    obtain ⟨i, hi⟩ := List.mem_iff_getElem?.mp hx
    have hil := (List.getElem?_eq_some_iff.mp hi).1
    have e : aAt A i = x := Option.some.inj ((aAt_get hil).symm.trans hi)
    obtain ⟨d1, d2, d3⟩ := hd i hil
    unfold nmAt at d1
    unfold lvAt at d3
    rw [e] at d1 d3
    exact ⟨d1, leavesB_good d3⟩
  · have hn : ∀ k, k ≤ A.length → (nmsTo A k).Nodup := by
      intro k
      induction k with
      | zero => intro _; exact List.nodup_nil
      | succ k ih =>
        intro hk
        rw [nms_snoc]
        refine List.nodup_append.mpr ⟨ih (by omega), by simp, fun a ha b hb e => ?_⟩
        have hb : b = nmAt A k := by simpa using hb
        subst hb; subst e
        exact (hd k (by omega)).2.1 ha
    have e : (A.map dimO).map (·.nm) = nmsTo A A.length := by
      apply List.ext_getElem?
      intro j
      unfold nmsTo
      rw [List.map_map, List.getElem?_map, List.getElem?_map]
      by_cases hj : j < A.length
      · rw [aAt_get hj, List.getElem?_range hj]; rfl
      · rw [List.getElem?_eq_none (by omega), List.getElem?_eq_none (by simp; omega)]; rfl
    rw [e]
    exact hn _ (Nat.le_refl _)
  · have := cellsR_eq A A.length (Nat.le_refl _)
    rw [List.take_length] at this
    rw [this]; exact h4
theorem init_bad {A : List Raw} {N : Nat} (hN : N ≤ 1000) (hA : okA N A) (h : dimsB A = false) : F_Space___init [.own (.ins "Space" []), .val (.tup (A.map rD))] = .ex "BadDimensions" [] [.own (.ins "Space" []), .val (.tup (A.map rD))] := by
  have e := are_dimensionsT hN hA
  rw [h] at e
  simp [F_Space___init, e]
theorem init_good {A : List Raw} (h : dimsB A = true) : F_Space___init [.own (.ins "Space" []), .val (.tup (A.map rD))] = .ok (.val .non) [.own (.ins "Space" (spaceF (A.map dimO))), .val (.tup (A.map rD))] := by
  have e := init_eq (dimsB_good h)
  have e2 : (A.map dimO).map Dim.d = A.map rD := by
    rw [List.map_map]
    exact List.map_congr_left fun x _ => dimO_d x
  rw [e2] at e
  exact e
theorem cl_words (ds : List Int) {s1 s2 s3 s4 s5 s7 s8 s9 : Option M} : ∀ (q : List (List Nat)) (k : Nat), (∀ t ∈ q, t.length ≤ 1000) → ∃ (vs : List (List Nat)) (k' : Nat), vs.length = q.length ∧ (∀ w ∈ vs, w.length ≤ 8) ∧ compM (gmName 6) mYes E_law_changed_leaves_1 [6] (q.map dT) [some (.own (boxD ds k)), s1, s2, s3, s4, s5, none, s7, s8, s9] = .ok ((List.zipWith (fun t w => t ++ [47] ++ w) q vs).map dT) [some (.own (boxD ds k')), s1, s2, s3, s4, s5, none, s7, s8, s9]
  | [], k, _ => ⟨[], k, rfl, by simp, rfl⟩
  | t :: q, k, ht => by
    obtain ⟨w, k1, w1, _, w2⟩ := law_word_ex ds k (taken := []) (by simp) (m := .val (.lst [])) (.inr rfl)
    have hw := (isWord_clean w1).2
    obtain ⟨vs, k', h1, h2, h3⟩ := cl_words ds (s1 := s1) (s2 := s2) (s3 := s3) (s4 := s4) (s5 := s5) (s7 := s7) (s8 := s8) (s9 := s9) q k1 fun t h => ht t (List.mem_cons_of_mem _ h)
    refine ⟨w :: vs, k', by simp [h1], fun v hv => ?_, ?_⟩
    · rcases List.mem_cons.mp hv with rfl | hv
      · exact hw
      · exact h2 v hv
    · have htl := ht t (List.mem_cons_self ..)
      have e1 : t.length + 1 ≤ 16777216 := by omega
      have e2 : t.length + 1 + w.length ≤ 16777216 := by omega
      rw [List.map_cons, comp_cons]
      have hx : turnC (gmName 6) mYes E_law_changed_leaves_1 [6] (dT t) [some (.own (boxD ds k)), s1, s2, s3, s4, s5, none, s7, s8, s9] = .ok (some (dT (t ++ [47] ++ w))) [some (.own (boxD ds k1)), s1, s2, s3, s4, s5, none, s7, s8, s9] := by
        simp [E_law_changed_leaves_1, slash_tx, e1, e2, w2]
      rw [hx]
      simp [h3]
theorem ixN_k {n k : Nat} (h : k < n) : ixN n (k : Int) = some k := by
  unfold ixN
  simp only [show (0 : Int) ≤ (k : Int) by omega, if_true]
  rw [if_pos (by omega)]
  simp
theorem joinL_le : ∀ ws : List (List Nat), (TL.joinL [47] ws).length ≤ (ws.map List.length).sum + ws.length
  | ws => pathT_len ws
theorem sum_set (l : List (List Nat)) (r : Nat) (x : List Nat) : ((l.set r x).map List.length).sum ≤ (l.map List.length).sum + x.length := by
  induction l generalizing r with
  | nil => simp
  | cons a l ih =>
    cases r with
    | zero => simp only [List.set_cons_zero, List.map_cons, List.sum_cons]; omega
    | succ r => have := ih r; simp only [List.set_cons_succ, List.map_cons, List.sum_cons]; omega
theorem sum_path : ∀ ws : List (List Nat), (ws.map List.length).sum + ws.length ≤ (pathT ws).length + 1
  | [] => by simp [pathT]
  | [w] => by simp [pathT, TL.joinL]
  | w :: v :: r => by
    have ih := sum_path (v :: r)
    have e : pathT (w :: v :: r) = w ++ ([47] ++ pathT (v :: r)) := rfl
    rw [e]
    simp only [List.map_cons, List.sum_cons, List.length_cons, List.length_append, List.length_nil] at ih ⊢
    omega
theorem spT_set_len (t l : List Nat) (r : Nat) : (((spT t).set r l).map List.length).sum + (spT t).length ≤ t.length + 1 + l.length := by
  have h1 := sum_set (spT t) r l
  have h2 := sum_path (spT t)
  rw [spT_path] at h2
  omega
theorem changed_leaves_ex (ds : List Int) (k : Nat) {q : List (List Nat)} {N : Nat} (hN : N ≤ 500) (h1 : 1 ≤ q.length) (hl : q.length ≤ N) (ht : ∀ t ∈ q, t.length ≤ N) : ∃ (q' : List (List Nat)) (k' : Nat), (1 ≤ q'.length ∧ q'.length ≤ N + 100 ∧ ∀ t ∈ q', t.length ≤ N + 100) ∧ F_law_changed_leaves [.own (boxD ds k), .val (txD q)] = .ok (.val (txD q')) [.own (boxD ds k'), .val (txD q)] := by
  obtain ⟨r3, hr3, er3⟩ := draw_ex ds k (m := (q.length : Int)) (by omega)
  obtain ⟨r4, hr4, er4⟩ := draw_ex ds (k + 1) (m := (q.length : Int)) (by omega)
  obtain ⟨r5, hr5, er5⟩ := draw_ex ds (k + 1 + 1) (m := 8) (by decide)
  have hz : q.length ≤ 16777216 := by omega
  have hqz : q ≠ [] := by intro z; subst z; simp at h1
  have hn0 : (q.length : Int) ≠ 0 := by omega
  have e3 : F_law_draw [.own (boxD ds k), .val (.int q.length)] = .ok (.val (.int r3)) [.own (boxD ds (k + 1)), .val (.int q.length)] := by rw [law_draw_eq hn0, er3]
  have e4 : F_law_draw [.own (boxD ds (k + 1)), .val (.int q.length)] = .ok (.val (.int r4)) [.own (boxD ds (k + 1 + 1)), .val (.int q.length)] := by rw [law_draw_eq hn0, er4]
  have e5 : F_law_draw [.own (boxD ds (k + 1 + 1)), .val (.int 8)] = .ok (.val (.int r5)) [.own (boxD ds (k + 1 + 1 + 1)), .val (.int 8)] := by rw [law_draw_eq (by decide), er5]
  have hr3 : r3 < q.length := by omega
  have hr4 : r4 < q.length := by omega
  have a3 := atT hr3
  have a4 := atT hr4
  generalize k + 1 + 1 + 1 = k3 at *
  have hr5 : r5 < 8 := by omega
  have i3 := ixN_k hr3
  have i4 := ixN_k hr4
  have c1 : cutD (q.map dT) none (some 1) = (q.map dT).take 1 := cutD_to _ 1
  have ct : cutD (q.map dT) none (some (r3 : Int)) = (q.map dT).take r3 := cutD_to _ r3
  have cf : cutD (q.map dT) (some (r3 : Int)) none = (q.map dT).drop r3 := cutD_from _ r3
  have z1 : min r3 q.length + 1 ≤ 16777216 := by omega
  have z2 : min r3 q.length + 1 + (q.length - r3) ≤ 16777216 := by omega
  have t3 := ht _ (getD_mem hr3)
  have t4 := ht _ (getD_mem hr4)
  have hset : ∀ (l : List (List Nat)) (r : Nat) (x : List Nat), (∀ t ∈ l, t.length ≤ N + 100) → x.length ≤ N + 100 → ∀ t ∈ l.set r x, t.length ≤ N + 100 := fun l r x hl hx t h => by
    rcases List.mem_or_eq_of_mem_set h with h | rfl
    · exact hl t h
    · exact hx
  have ht2 : ∀ t ∈ q, t.length ≤ N + 100 := fun t h => by have := ht t h; omega
  rcases (by omega : r5 = 0 ∨ r5 = 1 ∨ r5 = 2 ∨ r5 = 3 ∨ r5 = 4 ∨ r5 = 5 ∨ r5 = 6 ∨ r5 = 7) with rfl | rfl | rfl | rfl | rfl | rfl | rfl | rfl
  · refine ⟨q.take 1, k3, ⟨by simp; omega, by simp; omega, fun t h => ht2 t (List.mem_of_mem_take h)⟩, ?_⟩
    have z3 : min 1 q.length ≤ 16777216 := by omega
    simp [F_law_changed_leaves, hz, e3, e4, e5, a3, a4, c1, z3]
  · refine ⟨(q.set r3 (tAt q r4)).set r4 (tAt q r3), k3, ⟨by simpa using h1, by simp; omega, hset _ _ _ (hset _ _ _ ht2 (by omega)) (by omega)⟩, ?_⟩
    simp [F_law_changed_leaves, hz, e3, e4, e5, a3, a4, i3, i4]
  · refine ⟨q.take r3 ++ [tAt q r3] ++ q.drop r3, k3, ⟨by simp; omega, by simp; omega, fun t h => ?_⟩, ?_⟩
    · rcases List.mem_append.mp h with h | h
      · rcases List.mem_append.mp h with h | h
        · exact ht2 t (List.mem_of_mem_take h)
        · rw [List.mem_singleton.mp h]; omega
      · exact ht2 t (List.mem_of_mem_drop h)
    have z3 : min r3 q.length + (q.length - r3 + 1) ≤ 16777216 := by omega
    simp [F_law_changed_leaves, hz, e3, e4, e5, a3, a4, ct, cf, z1, z2, z3]
  · obtain ⟨vs, k4, v1, v2, v3⟩ := cl_words ds (s1 := some (.val (txD q))) (s2 := some (.val (.lst (q.map dT)))) (s3 := some (.val (.int r3))) (s4 := some (.val (.int r4))) (s5 := some (.val (.int 3))) (s7 := none) (s8 := none) (s9 := none) q k3 fun t h => by have := ht t h; omega
    refine ⟨List.zipWith (fun t w => t ++ [47] ++ w) q vs, k4, ⟨by simp; omega, by simp; omega, fun t h => ?_⟩, ?_⟩
    · obtain ⟨i, hi⟩ := List.mem_iff_getElem?.mp h
      rw [List.getElem?_zipWith] at hi
      cases hq : q[i]? with
      | none => rw [hq] at hi; simp at hi
      | some a =>
        cases hv : vs[i]? with
        | none => rw [hq, hv] at hi; simp at hi
        | some b =>
          rw [hq, hv] at hi
          cases hi
          have := ht a (List.mem_of_getElem? hq)
          have := v2 b (List.mem_of_getElem? hv)
          simp; omega
    have z3 : min q.length vs.length ≤ 16777216 := by omega
    simp [F_law_changed_leaves, hz, e3, e4, e5, a3, a4]
    rw [v3]
    simp [z3]
  · obtain ⟨w, k1, w1, _, w2⟩ := law_word_ex ds k3 (taken := []) (by simp) (m := .val (.lst [])) (.inr rfl)
    have hw := (isWord_clean w1).2
    have z3 : (tAt q r3).length + 1 ≤ 16777216 := by omega
    have z4 : (tAt q r3).length + 1 + w.length ≤ 16777216 := by omega
    refine ⟨q.set r3 (tAt q r3 ++ [47] ++ w), k1, ⟨by simpa using h1, by simp; omega, hset _ _ _ ht2 (by simp; omega)⟩, ?_⟩
    simp [F_law_changed_leaves, hz, e3, e4, e5, a3, a4, i3, slash_tx, z3, z4, w2]
  · obtain ⟨l, k1, l1, l2⟩ := a_text_ex ds k3
    have hsp : Txt.split (tx (tAt q r3)) (tx [47]) = (spT (tAt q r3)).map tx := split_tx _
    have hpos : 0 < (spT (tAt q r3)).length := List.length_pos_iff.mpr (spT_ne _)
    have hsl : (spT (tAt q r3)).length ≤ (tAt q r3).length + 1 := spl_len [47] (tAt q r3) 0 []
    have hpl := pathT_len (spT (tAt q r3))
    rw [spT_path] at hpl
    have hws : ∀ w ∈ spT (tAt q r3), w.length ≤ (tAt q r3).length := fun w hw => by
      have := pathT_mem_len hw
      rw [spT_path] at this
      exact this
    have hjl := spT_set_len (tAt q r3) l
    generalize hwq : spT (tAt q r3) = ws at *
    have hz5 : ws.length ≤ 16777216 := by omega
    obtain ⟨r6, hr6, er6⟩ := draw_ex ds k1 (m := (ws.length : Int)) (by omega)
    have e6 : F_law_draw [.own (boxD ds k1), .val (.int ws.length)] = .ok (.val (.int r6)) [.own (boxD ds (k1 + 1)), .val (.int ws.length)] := by rw [law_draw_eq (by omega), er6]
    have i6 := ixN_k (n := ws.length) (k := r6) (by omega)
    have hjn : ((ws.set r6 l).map List.length).sum + (ws.set r6 l).length * ([47] : List Nat).length ≤ 16777216 := by
      have := hjl r6
      simp only [List.length_set, List.length_singleton]
      omega
    have hj := join_tx (S := [47]) hjn
    have hjle : (TL.joinL [47] (ws.set r6 l)).length ≤ N + 100 := by
      have h6 := joinL_le (ws.set r6 l)
      have := hjl r6
      simp only [List.length_set] at h6
      omega
    refine ⟨q.set r3 (TL.joinL [47] (ws.set r6 l)), k1 + 1, ⟨by simpa using h1, by simp; omega, hset _ _ _ ht2 hjle⟩, ?_⟩
    have hst : ((ws.map tx).map D.str).set r6 (dT l) = ((ws.set r6 l).map tx).map D.str := by rw [List.map_map, List.map_map, List.map_set]; rfl
    have z3 : (tAt q r3).length ≤ 16777214 := by omega
    simp [F_law_changed_leaves, hz, e3, e4, e5, a3, a4, i3, slash_tx, hsp, l2, e6, i6, hz5, z3, hst, hj, -List.map_set, -List.map_map]
    simp
  · obtain ⟨r6, hr6, er6⟩ := draw_ex ds k3 (m := 4) (by decide)
    have e6 : F_law_draw [.own (boxD ds k3), .val (.int 4)] = .ok (.val (.int r6)) [.own (boxD ds (k3 + 1)), .val (.int 4)] := by rw [law_draw_eq (by decide), er6]
    have hr6 : r6 < 4 := by omega
    refine ⟨(List.range (7 + r6)).map fun i => [lettersL.getD i 0], k3 + 1, ⟨by simp; omega, by simp; omega, fun t h => ?_⟩, ?_⟩
    · obtain ⟨i, _, rfl⟩ := List.mem_map.mp h
      simp
    have hrg : rng1 ((7 : Int) + (r6 : Int)) = some ((List.range (7 + r6)).map fun k : Nat => D.int k) := rng1_nat (n := 7 + r6) (by omega)
    have z3 : 7 + r6 ≤ 16777216 := by omega
    have hcm : compM (gmName 9) mYes (mOp fIx (mName 8) (mName 9)) [9] ((List.range (7 + r6)).map fun k : Nat => D.int k) [some (.own (boxD ds (k3 + 1))), some (.val (txD q)), some (.own (.lst (q.map dT))), some (.val (.int r3)), some (.val (.int r4)), some (.val (.int 6)), none, none, some (.val (.str (Str.ofString "abcdefghijklmnopqrstuvwxyz"))), none] = .ok ((List.range (7 + r6)).map fun i : Nat => dT [lettersL.getD i 0]) [some (.own (boxD ds (k3 + 1))), some (.val (txD q)), some (.own (.lst (q.map dT))), some (.val (.int r3)), some (.val (.int r4)), some (.val (.int 6)), none, none, some (.val (.str (Str.ofString "abcdefghijklmnopqrstuvwxyz"))), none] := by
      refine comp_map (en := fun k : Nat => D.int k) (f := fun i : Nat => dT [lettersL.getD i 0]) _ fun i hi => ?_
      have hi : i < 7 + r6 := by simpa using hi
      have hil : i < lettersL.length := by have : lettersL.length = 26 := rfl; omega
      have ea : atI lettersL (i : Int) = some (lettersL.getD i 0) := atI_nat (by rw [List.getElem?_eq_getElem hil]; simp [hil])
      have hz9 : lettersL.length ≤ 16777216 := by decide
      simp [letters_tx, ea, hz9, -List.getD_eq_getElem?_getD]
    simp [F_law_changed_leaves, hz, e3, e4, e5, a3, a4, e6, hrg]
    rw [hcm]
    simp [z3, -List.getD_eq_getElem?_getD]
    intro a _; rw [List.getD_eq_getElem?_getD]
  · refine ⟨q.set r3 [], k3, ⟨by simpa using h1, by simp; omega, hset _ _ _ ht2 (by simp)⟩, ?_⟩
    simp [F_law_changed_leaves, hz, e3, e4, e5, a3, a4, i3, nil_tx]
theorem okA.mono {N M : Nat} {A : List Raw} (h : okA N A) (hm : N ≤ M) : okA M A := ⟨Nat.le_trans h.1 hm, fun x hx => (h.2 x hx).mono hm⟩
theorem changed_ex (ds : List Int) (k : Nat) {A : List Raw} {N : Nat} (hN : N ≤ 500) (hA : okA N A) (h0 : 0 < A.length) (h8 : A.length ≤ 10) : ∃ (A' : List Raw) (k' : Nat), okA (N + 100) A' ∧ A'.length ≤ A.length + 1 ∧ F_law_changed [.own (boxD ds k), .val (.lst (A.map rD))] = .ok (.tmp (.lst (A'.map rD))) [.own (boxD ds k'), .val (.lst (A.map rD))] := by
  obtain ⟨r2, hr2, er2⟩ := draw_ex ds k (m := (A.length : Int)) (by omega)
  obtain ⟨r3, hr3, er3⟩ := draw_ex ds (k + 1) (m := 7) (by decide)
  have hz : A.length ≤ 16777216 := by omega
  have e2 : F_law_draw [.own (boxD ds k), .val (.int A.length)] = .ok (.val (.int r2)) [.own (boxD ds (k + 1)), .val (.int A.length)] := by rw [law_draw_eq (by omega), er2]
  have e3 : F_law_draw [.own (boxD ds (k + 1)), .val (.int 7)] = .ok (.val (.int r3)) [.own (boxD ds (k + 1 + 1)), .val (.int 7)] := by rw [law_draw_eq (by decide), er3]
  have hr2 : r2 < A.length := by omega
  have ar := raw_at hr2
  obtain ⟨q1, q2, q3, q4⟩ := hA.2 _ (aAt_mem hr2)
  generalize k + 1 + 1 = k2 at *
  have ct : cutD (A.map rD) none (some (r2 : Int)) = (A.map rD).take r2 := cutD_to _ r2
  have cf : cutD (A.map rD) (some ((r2 : Int) + 1)) none = (A.map rD).drop (r2 + 1) := cutD_from _ (r2 + 1)
  have z1 : min r2 A.length + 1 ≤ 16777216 := by omega
  have z2 : min r2 A.length + 1 + (A.length - (r2 + 1)) ≤ 16777216 := by omega
  have z3 : A.length + 1 ≤ 16777216 := by omega
  have hmid : ∀ x : Raw, okR (N + 100) x → okA (N + 100) (A.take r2 ++ [x] ++ A.drop (r2 + 1)) ∧ (A.take r2 ++ [x] ++ A.drop (r2 + 1)).length ≤ A.length + 1 := fun x hx => by
    have hl : (A.take r2 ++ [x] ++ A.drop (r2 + 1)).length ≤ A.length + 1 := by simp; omega
    refine ⟨⟨by have := hA.1; omega, fun y hy => ?_⟩, hl⟩
    rcases List.mem_append.mp hy with hy | hy
    · rcases List.mem_append.mp hy with hy | hy
      · exact (hA.2 y (List.mem_of_mem_take hy)).mono (by omega)
      · rw [List.mem_singleton.mp hy]; exact hx
    · exact (hA.2 y (List.mem_of_mem_drop hy)).mono (by omega)
  have hend : ∀ x : Raw, okR (N + 100) x → okA (N + 100) (A ++ [x]) ∧ (A ++ [x]).length ≤ A.length + 1 := fun x hx => by
    refine ⟨⟨by have := hA.1; simp; omega, fun y hy => ?_⟩, by simp⟩
    rcases List.mem_append.mp hy with hy | hy
    · exact (hA.2 y hy).mono (by omega)
    · rw [List.mem_singleton.mp hy]; exact hx
  have hlv : ∀ w : List Nat, w.length ≤ N + 100 → okR (N + 100) (w, lvAt A r2) := fun w hw => ⟨hw, q2, by show (aAt A r2).2.length ≤ _; omega, fun t ht => by have := q4 t ht; omega⟩
  rcases (by omega : r3 = 0 ∨ r3 = 1 ∨ r3 = 2 ∨ r3 = 3 ∨ 4 ≤ r3) with rfl | rfl | rfl | rfl | h4
  · refine ⟨A.take r2, k2, ⟨by have := hA.1; simp; omega, fun x hx => (hA.2 x (List.mem_of_mem_take hx)).mono (by omega)⟩, by simp; omega, ?_⟩
    simp [F_law_changed, hz, e2, e3, ct]
  · obtain ⟨l, k3, l1, l2⟩ := a_text_ex ds k2
    obtain ⟨m1, m2⟩ := hmid _ (hlv l (by omega))
    refine ⟨_, k3, m1, m2, ?_⟩
    simp [F_law_changed, hz, e2, e3, ct, cf, ar, l2, z1, z2, rD]
  · have hnm : (A.map fun x => dT x.1) = (A.map (·.1)).map dT := by rw [List.map_map]; rfl
    obtain ⟨w, k3, w1, _, w2⟩ := law_word_ex ds k2 (taken := A.map (·.1)) (by simp; omega) (m := .val (.lst ((A.map (·.1)).map dT))) (.inr rfl)
    rw [← hnm] at w2
    have hw := (isWord_clean w1).2
    obtain ⟨m1, m2⟩ := hend _ (hlv w (by omega))
    refine ⟨_, k3, m1, m2, ?_⟩
    have hcm : compM (gmName 4) mYes (mOp fIx (mName 4) (mC (.int 0))) [4] (A.map rD) [some (.own (boxD ds k2)), some (.val (.lst (A.map rD))), some (.val (.int r2)), some (.val (.int 2)), none] = .ok (A.map fun x => dT x.1) [some (.own (boxD ds k2)), some (.val (.lst (A.map rD))), some (.val (.int r2)), some (.val (.int 2)), none] := by
      refine comp_map (en := rD) (f := fun x : Raw => dT x.1) A fun x hx => ?_
      simp [rD]
    simp [F_law_changed, hz, e2, e3, hcm, ar, w2, z3, rD]
  · obtain ⟨m1, m2⟩ := hend _ (hlv (nmAt A r2) (by show (aAt A r2).1.length ≤ _; omega))
    refine ⟨_, k2, m1, m2, ?_⟩
    simp [F_law_changed, hz, e2, e3, ar, z3, rD]
  · obtain ⟨q', k3, ⟨p1, p2, p3⟩, p4⟩ := changed_leaves_ex ds k2 hN (q := lvAt A r2) q2 q3 q4
    obtain ⟨m1, m2⟩ := hmid (nmAt A r2, q') ⟨by show (aAt A r2).1.length ≤ _; omega, p1, p2, p3⟩
    refine ⟨_, k3, m1, m2, ?_⟩
    have n0 : ¬ r3 = 0 := by omega
    have n1 : ¬ r3 = 1 := by omega
    have n2 : ¬ r3 = 2 := by omega
    have n3 : ¬ r3 = 3 := by omega
    simp [F_law_changed, hz, e2, e3, n0, n1, n2, n3, ct, cf, ar, p4, z1, z2, rD]
def rawO (m : Dim) : Raw := (m.nm, m.ls.map pathT)
theorem rawO_d (m : Dim) : rD (rawO m) = m.d := by
  show D.tup [dT m.nm, .tup ((m.ls.map pathT).map dT)] = D.tup [dT m.nm, .tup (m.ls.map leafD)]
  rw [List.map_map]; rfl
theorem rawO_ok {ms : List Dim} (g : GoodD ms) : okA 200 (ms.map rawO) := by
  refine ⟨by have := g.hi; simp; omega, fun x hx => ?_⟩
  obtain ⟨m, hm, rfl⟩ := List.mem_map.mp hx
  obtain ⟨h1, h2⟩ := g.good m hm
  have := (isWord_clean h1).2
  have := h2.lo
  have := h2.hi
  refine ⟨by show m.nm.length ≤ _; omega, by show 1 ≤ (m.ls.map pathT).length; simp; omega, by show (m.ls.map pathT).length ≤ _; simp; omega, fun t ht => ?_⟩
  obtain ⟨ws, hw, rfl⟩ := List.mem_map.mp ht
  have := pathT_len ws
  have := (h2.leaf hw).2
  omega
theorem same_dims {A : List Raw} {N : Nat} (hN : N ≤ 1000) (hA : okA N A) : F_law_same 4 [.val (.tup (A.map rD)), .val (.tup (A.map rD))] = .ok (.val (.bl true)) [.val (.tup (A.map rD)), .val (.tup (A.map rD))] := by
  refine same_eq 3 _ ⟨by have := hA.1; simp; omega, fun d hd => ?_⟩
  obtain ⟨x, hx, rfl⟩ := List.mem_map.mp hd
  obtain ⟨q1, q2, q3, q4⟩ := hA.2 x hx
  refine ⟨by simp, fun d hd => ?_⟩
  rcases List.mem_cons.mp hd with rfl | hd
  · trivial
  · rcases List.mem_cons.mp hd with rfl | hd
    · refine ⟨by simp; omega, fun d hd => ?_⟩
      obtain ⟨t, _, rfl⟩ := List.mem_map.mp hd
      trivial
    · cases hd
theorem law_true (ns : List Int) (hl : ns.length ≤ 63) : ∃ outs, F_law_k03 [.val (.scr (ns.map D.int))] = .ok (.val (.bl true)) outs := by
  obtain ⟨ms, g, e⟩ := law_wide_ex ns 0 48 ⟨by decide, by decide⟩
  have e : F_law_wide [.val (.scr (ns.map D.int)), .val (.int 0), .val (.int 48)] = .ok (.val (.tup (ms.map Dim.d))) [.val (.scr (ns.map D.int)), .val (.int 0), .val (.int 48)] := e
  have hm : ms.map Dim.d = (ms.map rawO).map rD := by
    rw [List.map_map]
    exact List.map_congr_left fun x _ => (rawO_d x).symm
  rw [hm] at e
  have hz : (ms.map rawO).length ≤ 16777216 := by have := g.hi; simp; omega
  obtain ⟨d5, _, h5⟩ := law_box_ex ns (k := 5) (by decide)
  have h5 : F_law_box [.val (.scr (ns.map D.int)), .val (.int 5)] = .ok (.tmp (boxD d5 0)) [.val (.scr (ns.map D.int)), .val (.int 5)] := h5
  obtain ⟨r, hr, er⟩ := draw_ex d5 0 (m := 3) (by decide)
  have er : F_law_draw [.own (boxD d5 0), .val (.int 3)] = .ok (.val (.int r)) [.own (boxD d5 1), .val (.int 3)] := by rw [law_draw_eq (by decide), er]
  have hrg := rng1_nat (n := r) (by omega)
  obtain ⟨e', he, A, k', rfl, hA, hAl⟩ := loop_ix (g := gmName 3) (b := B_law_k03_1) (ds := (List.range r).map fun c : Nat => D.int c) (fun i e => ∃ (A : List Raw) (k' : Nat), e = [some (.val (.scr (ns.map D.int))), some (.val (.lst (A.map rD))), some (.own (boxD d5 k')), none, none, none, none] ∧ okA (200 + 100 * i) A ∧ A.length ≤ 3 + i) (fun i d e hd ⟨A, k, he, hA, hAl⟩ => by
    have hi : i < r := by
      have := (List.getElem?_eq_some_iff.mp hd).1
      simpa using this
    obtain ⟨c, hc, rfl⟩ : ∃ c : Nat, c ∈ List.range r ∧ D.int c = d := List.mem_map.mp (List.mem_of_getElem? hd)
    subst he
    have hz : A.length ≤ 16777216 := by omega
    by_cases h0 : 0 < A.length
    · obtain ⟨A', k', p1, p2, p3⟩ := changed_ex d5 k (N := 200 + 100 * i) (by omega) hA h0 (by omega)
      refine ⟨_, .inl ?_, A', k', rfl, by rw [Nat.mul_add, Nat.mul_one, ← Nat.add_assoc]; exact p1, by omega⟩
      simp [B_law_k03_1, hz, h0, p3]
    · refine ⟨_, .inl ?_, A, k, rfl, hA.mono (by omega), by omega⟩
      simp [B_law_k03_1, hz, h0]) [some (.val (.scr (ns.map D.int))), some (.val (.lst ((ms.map rawO).map rD))), some (.own (boxD d5 1)), none, none, none, none] ⟨ms.map rawO, 1, rfl, rawO_ok g, by have := g.hi; simp; omega⟩
  rw [List.length_map, List.length_range] at hA hAl
  have hr : r < 3 := by omega
  have hz2 : A.length ≤ 16777216 := by omega
  have hN : 200 + 100 * r ≤ 1000 := by omega
  have ha := law_are_dimensionsT hN hA
  have hs := same_dims hN hA
  simp -implicitDefEqProofs [F_law_k03, e, h5, er, hrg, -List.map_map, -List.length_map, hz]
  rw [he]
  cases hb : dimsB A with
  | true =>
    have hi := init_good hb
    rw [hb] at ha
    have hdm : ((A.map dimO).map Dim.d) = A.map rD := by
      rw [List.map_map]
      exact List.map_congr_left fun x _ => dimO_d x
    simp -implicitDefEqProofs [hz2, hi, ha, spaceF, hdm, hs, -List.map_map]
  | false =>
    have hi := init_bad hN hA hb
    rw [hb] at ha
    simp -implicitDefEqProofs [hz2, hi, ha]
end VL
set_option Elab.async false
set_option linter.all false
set_option maxRecDepth 100000
set_option maxHeartbeats 4000000
namespace K03
open PySem PySem.Spec PyProof.Rows L2 VL
variable [CM]
def topS (i : Nat) : Stmt := PySem.Challenge.pw_cubesums_k03_dimensions_refused.main.body.getD i (.Pass ⟨0, 0, 0, 0⟩)
section
variable {P : Program} {w : World} {K : PySem.W.Frag} {mg : Str → Option Value} {base : Heap}
abbrev sLawDigits : Stmt := topS 21
theorem scLawDigits : FnScope ["_law_cell_here", "_law_at", "_law_digits_here", "_law_turn", "_law_seed"] ["_law_cell_here", "_law_at"] (defScope sLawDigits) := ⟨rfl, rfl, rfl, by decide +kernel, rfl, by decide +kernel, by decide +kernel⟩
theorem okLawDigits {f : Addr} {fd : FuncData} {k : Nat} {T : List Addr}
    (FB : FunB K mg "_law_digits" sLawDigits ["_law_cell_here", "_law_at"] f fd)
    (m_range : mg "range" = none)
    (m_int : mg "int" = none) : Callee P w K mg base T "_law_digits" (k + 1) ["_law_cell_here", "_law_at"] (spF F_law_digits) f fd := by
  have nd := scLawDigits.nd
  exact fl_fn 2 5 _ rfl FB scLawDigits rfl rfl (by decide) (fun cdv A outer s H E hr => ⟨_, (fss_cons (fst_own 2 nd (fe_lst fa_nil))
      (fss_cons (fst_if (ft_lt (fe_name 0) fe_int) (fss_one (fst_set 0 nd (fe_sub fe_int (fe_mul fe_int (fe_name 0))))) fss_nil)
      (fss_cons (fst_kill [0, 3, 4] (fst_if (ft_ge (fe_name 0) (fe_pow fe_int fe_int)) (fss_one (fst_kill [0] (fst_for (passes_of rfl) (fi_range1 m_range fe_int) (fg_name 3 nd) (fss_kill [3] (fss_one (fst_if (ft_gt (fe_name 0) fe_int) (fss_cons (fst_expr (fe_append (fe_name 2) (fe_mod (fe_intc m_int (fa_cons (fe_name 0) fa_nil)) fe_int)))
      (fss_one (fst_set 0 nd (fe_div (fe_name 0) fe_int)))) fss_nil)))))) (fss_cons (fst_set 4 nd (fe_mod (fe_intc m_int (fa_cons (fe_add (fe_add (fe_mul (fe_name 0) fe_int) (fe_mul (fe_name 1) fe_int)) fe_int) fa_nil)) fe_int))
      (fss_one (fst_kill [4] (fst_for (passes_of rfl) (fi_range1 m_range fe_int) (fg_name 3 nd) (fss_kill [3] (fss_cons (fst_set 4 nd (fe_mod (fe_intc m_int (fa_cons (fe_add (fe_add (fe_mul (fe_name 4) fe_int) (fe_mul fe_int (fe_name 3))) fe_int) fa_nil)) fe_int))
      (fss_one (fst_expr (fe_append (fe_name 2) (fe_mod (fe_intc m_int (fa_cons (fe_div (fe_name 4) fe_int) fa_nil)) fe_int))))))))))))
      (fss_one (fst_ret (fe_name 2))))))⟩)
abbrev sLawCell : Stmt := topS 20
theorem scLawCell : FnScope ["_law_script", "_law_k"] ["_law_script", "_law_k"] (defScope sLawCell) := ⟨rfl, rfl, rfl, by decide +kernel, rfl, by decide +kernel, by decide +kernel⟩
theorem okLawCell {f : Addr} {fd : FuncData} {k : Nat} {T : List Addr}
    (FB : FunB K mg "_law_cell" sLawCell ["_law_script", "_law_k"] f fd)
    (m_len : mg "len" = none)
    (m_int : mg "int" = none) : Callee P w K mg base T "_law_cell" (k + 1) ["_law_script", "_law_k"] (spF F_law_cell) f fd := by
  have nd := scLawCell.nd
  exact fl_fn 2 2 _ rfl FB scLawCell rfl rfl (by decide) (fun cdv A outer s H E hr => ⟨_, (fss_cons (fst_if (ft_lt (fe_name 1) (fe_len m_len (fa_cons (fe_name 0) fa_nil))) (fss_one (fst_ret (fe_intc m_int (fa_cons (fe_ix (fe_name 0) (fe_name 1)) fa_nil)))) fss_nil)
      (fss_one (fst_ret fe_int)))⟩)
abbrev sLawBox : Stmt := topS 22
theorem scLawBox : FnScope ["_law_script", "_law_at"] ["_law_script", "_law_at"] (defScope sLawBox) := ⟨rfl, rfl, rfl, by decide +kernel, rfl, by decide +kernel, by decide +kernel⟩
theorem okLawBox {f : Addr} {fd : FuncData} {k : Nat} {T : List Addr}
    (FB : FunB K mg "_law_box" sLawBox ["_law_script", "_law_at"] f fd)
    {fLawDigits : Addr} {fdLawDigits : FuncData} (C__law_digits : Callee P w K mg base T "_law_digits" k ["_law_cell_here", "_law_at"] (spF F_law_digits) fLawDigits fdLawDigits)
    {fLawCell : Addr} {fdLawCell : FuncData} (C__law_cell : Callee P w K mg base T "_law_cell" k ["_law_script", "_law_k"] (spF F_law_cell) fLawCell fdLawCell) : Callee P w K mg base T "_law_box" (k + 1) ["_law_script", "_law_at"] (spF F_law_box) f fd := by
  have nd := scLawBox.nd
  exact fl_fn 2 2 _ rfl FB scLawBox rfl rfl (by decide) (fun cdv A outer s H E hr => ⟨_, (fss_one (fst_ret (fe_lst (fa_cons (fe_fn C__law_digits hr (L2N.takes_of rfl rfl rfl rfl) (fa_cons (fe_fn C__law_cell hr (L2N.takes_of rfl rfl rfl rfl) (fa_cons (fe_name 0) (fa_cons (fe_name 1) fa_nil))) (fa_cons (fe_name 1) fa_nil))) (fa_cons fe_int fa_nil)))))⟩)
abbrev sLawDraw : Stmt := topS 23
theorem scLawDraw : FnScope ["_law_box_here", "_law_many", "_law_at"] ["_law_box_here", "_law_many"] (defScope sLawDraw) := ⟨rfl, rfl, rfl, by decide +kernel, rfl, by decide +kernel, by decide +kernel⟩
theorem okLawDraw {f : Addr} {fd : FuncData} {k : Nat} {T : List Addr}
    (FB : FunB K mg "_law_draw" sLawDraw ["_law_box_here", "_law_many"] f fd)
    (m_len : mg "len" = none)
    (m_int : mg "int" = none) : Callee P w K mg base T "_law_draw" (k + 1) ["_law_box_here", "_law_many"] (spF F_law_draw) f fd := by
  have nd := scLawDraw.nd
  exact fl_fn 2 3 _ rfl FB scLawDraw rfl rfl (by decide) (fun cdv A outer s H E hr => ⟨_, (fss_cons (fst_set 2 nd (fe_ix (fe_name 0) fe_int))
      (fss_cons (fst_asg (fe_add (fe_name 2) fe_int) (fg_sub (fe_name 0) fe_int))
      (fss_cons (fst_if (ft_lt (fe_name 2) (fe_len m_len (fa_cons (fe_ix (fe_name 0) fe_int) fa_nil))) (fss_one (fst_ret (fe_mod (fe_intc m_int (fa_cons (fe_ix (fe_ix (fe_name 0) fe_int) (fe_name 2)) fa_nil)) (fe_name 1)))) fss_nil)
      (fss_one (fst_ret fe_int)))))⟩)
abbrev sLawWord : Stmt := topS 28
theorem scLawWord : FnScope ["_law_box_here", "_law_taken", "_law_marks", "_law_turn", "_law_word_here", "_law_k", "_law_mark"] ["_law_box_here", "_law_taken"] (defScope sLawWord) := ⟨rfl, rfl, rfl, by decide +kernel, rfl, by decide +kernel, by decide +kernel⟩
theorem okLawWord {f : Addr} {fd : FuncData} {k : Nat} {T : List Addr}
    (FB : FunB K mg "_law_word" sLawWord ["_law_box_here", "_law_taken"] f fd)
    {fLawDraw : Addr} {fdLawDraw : FuncData} (C__law_draw : Callee P w K mg base T "_law_draw" k ["_law_box_here", "_law_many"] (spF F_law_draw) fLawDraw fdLawDraw)
    (m_range : mg "range" = none) : Callee P w K mg base T "_law_word" (k + 1) ["_law_box_here", "_law_taken"] (spF F_law_word) f fd := by
  have nd := scLawWord.nd
  exact fl_fn 2 7 _ rfl FB scLawWord rfl rfl (by decide) (fun cdv A outer s H E hr => ⟨_, (fss_cons (fst_set 2 nd fe_str)
      (fss_cons (fst_for (passes_of rfl) (fi_range1 m_range fe_int) (fg_name 3 nd) (fss_kill [3, 4, 5] (fss_cons (fst_set 4 nd fe_str)
      (fss_cons (fst_for (passes_of rfl) (fi_range1 m_range (fe_add fe_int (fe_mul (fe_fn C__law_draw hr (L2N.takes_of rfl rfl rfl rfl) (fa_cons (fe_name 0) (fa_cons fe_int fa_nil))) (fe_fn C__law_draw hr (L2N.takes_of rfl rfl rfl rfl) (fa_cons (fe_name 0) (fa_cons fe_int fa_nil)))))) (fg_name 5 nd) (fss_kill [5] (fss_one (fst_set 4 nd (fe_add (fe_name 4) (fe_ix (fe_name 2) (fe_fn C__law_draw hr (L2N.takes_of rfl rfl rfl rfl) (fa_cons (fe_name 0) (fa_cons fe_int fa_nil)))))))))
      (fss_one (fst_if (FW.ft (fw_and (ft_nin (ru65 hr) (fe_name 4) (fe_name 1)) (fw_and1 (ft_nin (ru65 hr) (fe_name 4) (fe_tup (fa_cons fe_str (fa_cons fe_str (fa_cons fe_str (fa_cons fe_str fa_nil))))))))) (fss_one (fst_ret (fe_name 4))) fss_nil))))))
      (fss_cons (fst_for (passes_of rfl) (fi_seq (fe_name 2)) (fg_name 6 nd) (fss_kill [6] (fss_one (fst_if (ft_nin (ru65 hr) (fe_name 6) (fe_name 1)) (fss_one (fst_ret (fe_name 6))) fss_nil))))
      (fss_one (fst_ret fe_str)))))⟩)
abbrev sLawPlainLeaves : Stmt := topS 31
theorem scLawPlainLeaves : FnScope ["_law_depth", "_law_many", "_law_marks", "_law_heads", "_law_others", "_law_rows", "_law_k"] ["_law_depth", "_law_many"] (defScope sLawPlainLeaves) := ⟨rfl, rfl, rfl, by decide +kernel, rfl, by decide +kernel, by decide +kernel⟩
theorem okLawPlainLeaves {f : Addr} {fd : FuncData} {k : Nat} {T : List Addr}
    (FB : FunB K mg "_law_plain_leaves" sLawPlainLeaves ["_law_depth", "_law_many"] f fd)
    (m_tuple : mg "tuple" = none)
    (m_range : mg "range" = none) : Callee P w K mg base T "_law_plain_leaves" (k + 1) ["_law_depth", "_law_many"] (spF F_law_plain_leaves) f fd := by
  have nd := scLawPlainLeaves.nd
  exact fl_fn 2 7 _ rfl FB scLawPlainLeaves rfl rfl (by decide) (fun cdv A outer s H E hr => ⟨_, (fss_cons (fst_set 2 nd fe_str)
      (fss_cons (fst_set 3 nd (fe_tup (fa_cons fe_str (fa_cons fe_str (fa_cons fe_str fa_nil)))))
      (fss_cons (fst_set 4 nd (fe_tup (fa_cons fe_str (fa_cons fe_str (fa_cons fe_str fa_nil)))))
      (fss_cons (fst_own 5 nd (fe_lst fa_nil))
      (fss_cons (fst_for (passes_of rfl) (fi_range1 m_range (fe_name 1)) (fg_name 6 nd) (fss_kill [6] (fss_one (fst_if (ft_lt (fe_mul fe_int (fe_name 6)) (fe_name 1)) (fss_one (fst_expr (fe_append (fe_name 5) (fe_add (fe_ix (fe_name 3) (fe_sub (fe_name 0) fe_int)) (fe_ix (fe_name 2) (fe_name 6)))))) (fss_one (fst_expr (fe_append (fe_name 5) (fe_add (fe_ix (fe_name 4) (fe_sub (fe_name 0) fe_int)) (fe_ix (fe_name 2) (fe_name 6))))))))))
      (fss_one (fst_ret (fe_tuplec m_tuple (fa_cons (fe_name 5) fa_nil)))))))))⟩)
abbrev sLawLeaves : Stmt := topS 29
theorem scLawLeaves : FnScope ["_law_box_here", "_law_depth", "_law_many", "_law_pools", "_law_level", "_law_words", "_law_k", "_law_paths", "_law_turn", "_law_path", "_law_pool", "_law_word_here"] ["_law_box_here", "_law_depth", "_law_many"] (defScope sLawLeaves) := ⟨rfl, rfl, rfl, by decide +kernel, rfl, by decide +kernel, by decide +kernel⟩
theorem okLawLeaves {f : Addr} {fd : FuncData} {k : Nat} {T : List Addr}
    (FB : FunB K mg "_law_leaves" sLawLeaves ["_law_box_here", "_law_depth", "_law_many"] f fd)
    {fLawDraw : Addr} {fdLawDraw : FuncData} (C__law_draw : Callee P w K mg base T "_law_draw" k ["_law_box_here", "_law_many"] (spF F_law_draw) fLawDraw fdLawDraw)
    {fLawWord : Addr} {fdLawWord : FuncData} (C__law_word : Callee P w K mg base T "_law_word" k ["_law_box_here", "_law_taken"] (spF F_law_word) fLawWord fdLawWord)
    (m_sorted : mg "sorted" = none)
    (m_tuple : mg "tuple" = none)
    (m_len : mg "len" = none)
    (m_range : mg "range" = none) : Callee P w K mg base T "_law_leaves" (k + 1) ["_law_box_here", "_law_depth", "_law_many"] (spF F_law_leaves) f fd := by
  have nd := scLawLeaves.nd
  exact fl_fn 3 12 _ rfl FB scLawLeaves rfl rfl (by decide) (fun cdv A outer s H E hr => ⟨_, (fss_cons (fst_own 3 nd (fe_lst fa_nil))
      (fss_cons (fst_for (passes_of rfl) (fi_range1 m_range (fe_name 1)) (fg_name 4 nd) (fss_kill [4, 5, 6] (fss_cons (fst_own 5 nd (fe_lst fa_nil))
      (fss_cons (fst_for (passes_of rfl) (fi_range1 m_range (fe_name 2)) (fg_name 6 nd) (fss_kill [6] (fss_one (fst_if (FW.ft (fw_or (ft_eq hr.units (fe_name 4) (fe_sub (fe_name 1) fe_int)) (fw_or1 (ft_lt (fe_name 6) fe_int)))) (fss_one (fst_expr (fe_append (fe_name 5) (fe_fn C__law_word hr (L2N.takes_of rfl rfl rfl rfl) (fa_cons (fe_name 0) (fa_cons (fe_name 5) fa_nil)))))) fss_nil))))
      (fss_one (fst_expr (fe_append (fe_name 3) (fe_name 5))))))))
      (fss_cons (fst_own 7 nd (fe_lst fa_nil))
      (fss_cons (fst_for (passes_of rfl) (fi_range1 m_range (fe_mul fe_int (fe_name 2))) (fg_name 8 nd) (fss_kill [8, 9] (fss_cons (fst_set 9 nd (fe_join fe_str (fe_lc nd (fi_seq (fe_name 3)) ⟨(blkOk_by (N := ["_law_box_here", "_law_depth", "_law_many", "_law_pools", "_law_level", "_law_words", "_law_k", "_law_paths", "_law_turn", "_law_path", "_law_pool", "_law_word_here"]) (sc := defScope sLawLeaves) (own := [("_law_pool", 10)]) (by decide +kernel)), (by decide), (fun _ _ _ _ _ => (fg_name 10 nd)), (fun _ _ _ _ _ => VTs.re fts_nil (by first | rfl | (dsimp only [L2.Cx.blk] <;> rfl))), (fun _ _ _ _ _ => VE.re (fe_ix (fe_name 10) (fe_fn C__law_draw (by exact hr) takes0N (fa_cons (fe_name 0) (fa_cons (fe_len m_len (fa_cons (fe_name 10) fa_nil)) fa_nil)))) (by first | rfl | (dsimp only [L2.Cx.blk] <;> rfl)))⟩)))
      (fss_one (fst_if (FW.ft (fw_and (ft_nin (ru65 hr) (fe_name 9) (fe_name 7)) (fw_and1 (ft_lt (fe_len m_len (fa_cons (fe_name 7) fa_nil)) (fe_name 2))))) (fss_one (fst_expr (fe_append (fe_name 7) (fe_name 9)))) fss_nil)))))
      (fss_cons (fst_for (passes_of rfl) (fi_seq (fe_ix (fe_name 3) (fe_neg fe_int))) (fg_name 11 nd) (fss_kill [9, 11] (fss_cons (fst_set 9 nd (fe_join fe_str (fe_add (fe_lc nd (fi_seq (fe_sl (fe_name 3) fo_none (fo_some (fe_neg fe_int)))) ⟨(blkOk_by (N := ["_law_box_here", "_law_depth", "_law_many", "_law_pools", "_law_level", "_law_words", "_law_k", "_law_paths", "_law_turn", "_law_path", "_law_pool", "_law_word_here"]) (sc := defScope sLawLeaves) (own := [("_law_pool", 10)]) (by decide +kernel)), (by decide), (fun _ _ _ _ _ => (fg_name 10 nd)), (fun _ _ _ _ _ => VTs.re fts_nil (by first | rfl | (dsimp only [L2.Cx.blk] <;> rfl))), (fun _ _ _ _ _ => VE.re (fe_ix (fe_name 10) fe_int) (by first | rfl | (dsimp only [L2.Cx.blk] <;> rfl)))⟩) (fe_lst (fa_cons (fe_name 11) fa_nil)))))
      (fss_one (fst_if (FW.ft (fw_and (ft_nin (ru65 hr) (fe_name 9) (fe_name 7)) (fw_and1 (ft_lt (fe_len m_len (fa_cons (fe_name 7) fa_nil)) fe_int)))) (fss_one (fst_expr (fe_append (fe_name 7) (fe_name 9)))) fss_nil)))))
      (fss_one (fst_ret (fe_tuplec m_tuple (fa_cons (fe_sorted m_sorted (fa_cons (fe_name 7) fa_nil)) fa_nil)))))))))⟩)
abbrev sLawWide : Stmt := topS 30
theorem scLawWide : FnScope ["_law_script", "_law_first", "_law_cells_left", "_law_start", "_law_found", "_law_names", "_law_k", "_law_box_here", "_law_depth", "_law_many", "_law_plain", "_law_leaves_here", "_law_name"] ["_law_script", "_law_first", "_law_cells_left"] (defScope sLawWide) := ⟨rfl, rfl, rfl, by decide +kernel, rfl, by decide +kernel, by decide +kernel⟩
theorem okLawWide {f : Addr} {fd : FuncData} {k : Nat} {T : List Addr}
    (FB : FunB K mg "_law_wide" sLawWide ["_law_script", "_law_first", "_law_cells_left"] f fd)
    {fLawDraw : Addr} {fdLawDraw : FuncData} (C__law_draw : Callee P w K mg base T "_law_draw" k ["_law_box_here", "_law_many"] (spF F_law_draw) fLawDraw fdLawDraw)
    {fLawWord : Addr} {fdLawWord : FuncData} (C__law_word : Callee P w K mg base T "_law_word" k ["_law_box_here", "_law_taken"] (spF F_law_word) fLawWord fdLawWord)
    {fLawPlainLeaves : Addr} {fdLawPlainLeaves : FuncData} (C__law_plain_leaves : Callee P w K mg base T "_law_plain_leaves" k ["_law_depth", "_law_many"] (spF F_law_plain_leaves) fLawPlainLeaves fdLawPlainLeaves)
    {fLawLeaves : Addr} {fdLawLeaves : FuncData} (C__law_leaves : Callee P w K mg base T "_law_leaves" k ["_law_box_here", "_law_depth", "_law_many"] (spF F_law_leaves) fLawLeaves fdLawLeaves)
    {fLawBox : Addr} {fdLawBox : FuncData} (C__law_box : Callee P w K mg base T "_law_box" k ["_law_script", "_law_at"] (spF F_law_box) fLawBox fdLawBox)
    (m_tuple : mg "tuple" = none)
    (m_range : mg "range" = none)
    (m_len : mg "len" = none)
    (m_min : mg "min" = none) : Callee P w K mg base T "_law_wide" (k + 1) ["_law_script", "_law_first", "_law_cells_left"] (spF F_law_wide) f fd := by
  have nd := scLawWide.nd
  exact fl_fn 3 13 _ rfl FB scLawWide rfl rfl (by decide) (fun cdv A outer s H E hr => ⟨_, (fss_cons (fst_own 3 nd (fe_fn C__law_box hr (L2N.takes_of rfl rfl rfl rfl) (fa_cons (fe_name 0) (fa_cons (fe_name 1) fa_nil))))
      (fss_cons (fst_own 4 nd (fe_lst fa_nil))
      (fss_cons (fst_own 5 nd (fe_lst fa_nil))
      (fss_cons (fst_kill [2] (fst_for (passes_of rfl) (fi_range1 m_range (fe_add fe_int (fe_fn C__law_draw hr (L2N.takes_of rfl rfl rfl rfl) (fa_cons (fe_name 3) (fa_cons fe_int fa_nil))))) (fg_name 6 nd) (fss_kill [6, 7, 8, 9, 10, 11, 12] (fss_cons (fst_own 7 nd (fe_fn C__law_box hr (L2N.takes_of rfl rfl rfl rfl) (fa_cons (fe_name 0) (fa_cons (fe_add (fe_add (fe_name 1) fe_int) (fe_name 6)) fa_nil))))
      (fss_one (fst_kill [8, 9, 10, 11, 12] (fst_if (ft_ge (fe_name 2) fe_int) (fss_cons (fst_set 8 nd (fe_add fe_int (fe_fn C__law_draw hr (L2N.takes_of rfl rfl rfl rfl) (fa_cons (fe_name 7) (fa_cons fe_int fa_nil)))))
      (fss_cons (fst_set 9 nd (fe_min2 m_min (fa_cons (fe_add fe_int (fe_fn C__law_draw hr (L2N.takes_of rfl rfl rfl rfl) (fa_cons (fe_name 7) (fa_cons fe_int fa_nil)))) (fa_cons (fe_name 2) fa_nil))))
      (fss_cons (fst_set 10 nd (fe_eq hr.units (fe_fn C__law_draw hr (L2N.takes_of rfl rfl rfl rfl) (fa_cons (fe_name 7) (fa_cons fe_int fa_nil))) fe_int))
      (fss_cons (fst_set 11 nd (fe_if (ft_val (fe_name 10)) (fe_fn C__law_plain_leaves hr (L2N.takes_of rfl rfl rfl rfl) (fa_cons (fe_name 8) (fa_cons (fe_name 9) fa_nil))) (fe_fn C__law_leaves hr (L2N.takes_of rfl rfl rfl rfl) (fa_cons (fe_name 7) (fa_cons (fe_name 8) (fa_cons (fe_name 9) fa_nil))))))
      (fss_cons (fst_set 2 nd (fe_div (fe_name 2) (fe_len m_len (fa_cons (fe_name 11) fa_nil))))
      (fss_cons (fst_set 12 nd (fe_fn C__law_word hr (L2N.takes_of rfl rfl rfl rfl) (fa_cons (fe_name 7) (fa_cons (fe_name 5) fa_nil))))
      (fss_cons (fst_expr (fe_append (fe_name 5) (fe_name 12)))
      (fss_one (fst_expr (fe_append (fe_name 4) (fe_tup (fa_cons (fe_name 12) (fa_cons (fe_name 11) fa_nil))))))))))))) fss_nil)))))))
      (fss_one (fst_ret (fe_tuplec m_tuple (fa_cons (fe_name 4) fa_nil))))))))⟩)
abbrev sIsWord : Stmt := topS 12
theorem scIsWord : FnScope ["text", "sign"] ["text"] (defScope sIsWord) := ⟨rfl, rfl, rfl, by decide +kernel, rfl, by decide +kernel, by decide +kernel⟩
theorem okIsWord {f : Addr} {fd : FuncData} {k : Nat} {T : List Addr}
    {cA Pt : Addr} (FB : FunG K mg "is_word" sIsWord ["text"] f fd cA) (TB : GxR.TabB base mg cA Pt) (hPt : Pt ∈ T)
    (m_all : mg "all" = none)
    (m_len : mg "len" = none)
    {v_LETTERS : V} (G_LETTERS : GlobK K mg "LETTERS" (.str "abcdefghijklmnopqrstuvwxyz") v_LETTERS)
    {v_RESERVED : V} (G_RESERVED : GlobK K mg "RESERVED" (.tup [(.str "sum"), (.str "where"), (.str "in"), (.str "and")]) v_RESERVED)
    {v_LONGEST_WORD : V} (G_LONGEST_WORD : GlobK K mg "LONGEST_WORD" (.int 8) v_LONGEST_WORD) : Callee P w K mg base T "is_word" (k + 2) ["text"] (spF F_is_word) f fd := by
  have nd := scIsWord.nd
  exact fl_fnG 1 2 _ rfl FB scIsWord rfl rfl (by decide) (fun cdv hcv A outer s H E hr => ⟨_, (fss_cons (fst_if (FW.ft (fw_or (ft_lt (fe_len m_len (fa_cons (fe_name 0) fa_nil)) fe_int) (fw_or (ft_gt (fe_len m_len (fa_cons (fe_name 0) fa_nil)) (fe_gl G_LONGEST_WORD)) (fw_or1 (ft_in (ru65 hr) (fe_name 0) (fe_gl G_RESERVED)))))) (fss_one (fst_ret fe_bl)) fss_nil)
      (fss_one (fst_ret (fe_allG hr m_all TB hcv hPt nd (fi_seq (fe_name 0)) ⟨(blkOk_by (N := ["text", "sign"]) (sc := defScope sIsWord) (own := [("sign", 1)]) (by decide +kernel)), (by decide), (by decide), rfl, rfl, (show (".0" : Str) ∉ (["text", "sign"] : List Str) by decide +kernel), (fun _ _ _ _ _ _ => (fg_name 1 nd)), (fun _ _ _ _ _ _ => VE.re (fe_in (by exact ru65 (GX.Room.gen hr _)) (fe_name 1) (fe_gl G_LETTERS)) (by first | rfl | (dsimp only [GX.gcx] <;> rfl)))⟩))))⟩)
abbrev sPathWords : Stmt := topS 13
theorem scPathWords : FnScope ["path"] ["path"] (defScope sPathWords) := ⟨rfl, rfl, rfl, by decide +kernel, rfl, by decide +kernel, by decide +kernel⟩
theorem okPathWords {f : Addr} {fd : FuncData} {k : Nat} {T : List Addr}
    (FB : FunB K mg "path_words" sPathWords ["path"] f fd)
    (m_tuple : mg "tuple" = none) : Callee P w K mg base T "path_words" (k + 1) ["path"] (spF F_path_words) f fd := by
  have nd := scPathWords.nd
  exact fl_fn 1 1 _ rfl FB scPathWords rfl rfl (by decide) (fun cdv A outer s H E hr => ⟨_, (fss_cons (fst_if (ft_eq hr.units (fe_name 0) fe_str) (fss_one (fst_ret (fe_tup fa_nil))) fss_nil)
      (fss_one (fst_ret (fe_tuplec m_tuple (fa_cons (fe_split (fe_name 0) fe_str) fa_nil)))))⟩)
abbrev sAreLeaves : Stmt := topS 15
theorem scAreLeaves : FnScope ["leaves", "depth", "at", "words", "word"] ["leaves"] (defScope sAreLeaves) := ⟨rfl, rfl, rfl, by decide +kernel, rfl, by decide +kernel, by decide +kernel⟩
theorem okAreLeaves {f : Addr} {fd : FuncData} {k : Nat} {T : List Addr}
    {cA Pt : Addr} (FB : FunG K mg "are_leaves" sAreLeaves ["leaves"] f fd cA) (TB : GxR.TabB base mg cA Pt) (hPt : Pt ∈ T)
    {fIsWord : Addr} {fdIsWord : FuncData} (C_is_word : Callee P w K mg base T "is_word" k ["text"] (spF F_is_word) fIsWord fdIsWord)
    {fPathWords : Addr} {fdPathWords : FuncData} (C_path_words : Callee P w K mg base T "path_words" k ["path"] (spF F_path_words) fPathWords fdPathWords)
    (m_len : mg "len" = none)
    (m_range : mg "range" = none)
    (m_all : mg "all" = none)
    {v_MOST_DEPTH : V} (G_MOST_DEPTH : GlobK K mg "MOST_DEPTH" (.int 3) v_MOST_DEPTH)
    {v_MOST_LEAVES : V} (G_MOST_LEAVES : GlobK K mg "MOST_LEAVES" (.int 8) v_MOST_LEAVES) : Callee P w K mg base T "are_leaves" (k + 2) ["leaves"] (spF F_are_leaves) f fd := by
  have nd := scAreLeaves.nd
  exact fl_fnG 1 5 _ rfl FB scAreLeaves rfl rfl (by decide) (fun cdv hcv A outer s H E hr => ⟨_, (fss_cons (fst_if (FW.ft (fw_or (ft_lt (fe_len m_len (fa_cons (fe_name 0) fa_nil)) fe_int) (fw_or1 (ft_gt (fe_len m_len (fa_cons (fe_name 0) fa_nil)) (fe_gl G_MOST_LEAVES))))) (fss_one (fst_ret fe_bl)) fss_nil)
      (fss_cons (fst_set 1 nd (fe_len m_len (fa_cons (fe_fn (C_path_words.mono (Nat.le_succ _)) hr (L2N.takes_of rfl rfl rfl rfl) (fa_cons (fe_ix (fe_name 0) fe_int) fa_nil)) fa_nil)))
      (fss_cons (fst_if (FW.ft (fw_or (ft_lt (fe_name 1) fe_int) (fw_or1 (ft_gt (fe_name 1) (fe_gl G_MOST_DEPTH))))) (fss_one (fst_ret fe_bl)) fss_nil)
      (fss_cons (fst_for (passes_of rfl) (fi_range1 m_range (fe_len m_len (fa_cons (fe_name 0) fa_nil))) (fg_name 2 nd) (fss_kill [2, 3] (fss_cons (fst_set 3 nd (fe_fn (C_path_words.mono (Nat.le_succ _)) hr (L2N.takes_of rfl rfl rfl rfl) (fa_cons (fe_ix (fe_name 0) (fe_name 2)) fa_nil)))
      (fss_cons (fst_if (FW.ft (fw_or (ft_ne hr.units (fe_len m_len (fa_cons (fe_name 3) fa_nil)) (fe_name 1)) (fw_or1 (ft_not (ft_val (fe_allG hr m_all TB hcv hPt nd (fi_seq (fe_name 3)) ⟨(blkOk_by (N := ["leaves", "depth", "at", "words", "word"]) (sc := defScope sAreLeaves) (own := [("word", 4)]) (by decide +kernel)), (by decide), (by decide), rfl, rfl, (show (".0" : Str) ∉ (["leaves", "depth", "at", "words", "word"] : List Str) by decide +kernel), (fun _ _ _ _ _ _ => (fg_name 4 nd)), (fun _ _ _ _ _ _ => VE.re (fe_fn C_is_word (by exact GX.Room.gen hr _) takes0N (fa_cons (fe_name 4) fa_nil)) (by first | rfl | (dsimp only [GX.gcx] <;> rfl)))⟩)))))) (fss_one (fst_ret fe_bl)) fss_nil)
      (fss_one (fst_if (FW.ft (fw_and (ft_gt (fe_name 2) fe_int) (fw_and1 (ft_ge (fe_ix (fe_name 0) (fe_sub (fe_name 2) fe_int)) (fe_ix (fe_name 0) (fe_name 2)))))) (fss_one (fst_ret fe_bl)) fss_nil))))))
      (fss_one (fst_ret fe_bl))))))⟩)
abbrev sAreDimensions : Stmt := topS 16
theorem scAreDimensions : FnScope ["dimensions", "many", "names", "name", "leaves"] ["dimensions"] (defScope sAreDimensions) := ⟨rfl, rfl, rfl, by decide +kernel, rfl, by decide +kernel, by decide +kernel⟩
theorem okAreDimensions {f : Addr} {fd : FuncData} {k : Nat} {T : List Addr}
    (FB : FunB K mg "are_dimensions" sAreDimensions ["dimensions"] f fd)
    {fAreLeaves : Addr} {fdAreLeaves : FuncData} (C_are_leaves : Callee P w K mg base T "are_leaves" k ["leaves"] (spF F_are_leaves) fAreLeaves fdAreLeaves)
    {fIsWord : Addr} {fdIsWord : FuncData} (C_is_word : Callee P w K mg base T "is_word" k ["text"] (spF F_is_word) fIsWord fdIsWord)
    (m_len : mg "len" = none)
    {v_MOST_CELLS : V} (G_MOST_CELLS : GlobK K mg "MOST_CELLS" (.int 48) v_MOST_CELLS)
    {v_MOST_DIMENSIONS : V} (G_MOST_DIMENSIONS : GlobK K mg "MOST_DIMENSIONS" (.int 3) v_MOST_DIMENSIONS) : Callee P w K mg base T "are_dimensions" (k + 1) ["dimensions"] (spF F_are_dimensions) f fd := by
  have nd := scAreDimensions.nd
  exact fl_fn 1 5 _ rfl FB scAreDimensions rfl rfl (by decide) (fun cdv A outer s H E hr => ⟨_, (fss_cons (fst_if (FW.ft (fw_or (ft_lt (fe_len m_len (fa_cons (fe_name 0) fa_nil)) fe_int) (fw_or1 (ft_gt (fe_len m_len (fa_cons (fe_name 0) fa_nil)) (fe_gl G_MOST_DIMENSIONS))))) (fss_one (fst_ret fe_bl)) fss_nil)
      (fss_cons (fst_set 1 nd fe_int)
      (fss_cons (fst_own 2 nd (fe_lst fa_nil))
      (fss_cons (fst_for (passes_of rfl) (fi_seq (fe_name 0)) (fg_tup (fgs_cons (fg_name 3 nd) (fgs_cons (fg_name 4 nd) fgs_nil))) (fss_kill [3, 4] (fss_cons (fst_if (FW.ft (fw_or (ft_not (ft_val (fe_fn C_is_word hr (L2N.takes_of rfl rfl rfl rfl) (fa_cons (fe_name 3) fa_nil)))) (fw_or (ft_in (ru65 hr) (fe_name 3) (fe_name 2)) (fw_or1 (ft_not (ft_val (fe_fn C_are_leaves hr (L2N.takes_of rfl rfl rfl rfl) (fa_cons (fe_name 4) fa_nil)))))))) (fss_one (fst_ret fe_bl)) fss_nil)
      (fss_cons (fst_expr (fe_append (fe_name 2) (fe_name 3)))
      (fss_one (fst_set 1 nd (fe_mul (fe_name 1) (fe_len m_len (fa_cons (fe_name 4) fa_nil)))))))))
      (fss_one (fst_ret (fe_le (fe_name 1) (fe_gl G_MOST_CELLS))))))))⟩)
abbrev sBeginning : Stmt := topS 14
theorem scBeginning : FnScope ["path", "level"] ["path", "level"] (defScope sBeginning) := ⟨rfl, rfl, rfl, by decide +kernel, rfl, by decide +kernel, by decide +kernel⟩
theorem okBeginning {f : Addr} {fd : FuncData} {k : Nat} {T : List Addr}
    (FB : FunB K mg "beginning" sBeginning ["path", "level"] f fd)
    {fPathWords : Addr} {fdPathWords : FuncData} (C_path_words : Callee P w K mg base T "path_words" k ["path"] (spF F_path_words) fPathWords fdPathWords) : Callee P w K mg base T "beginning" (k + 1) ["path", "level"] (spF F_beginning) f fd := by
  have nd := scBeginning.nd
  exact fl_fn 2 2 _ rfl FB scBeginning rfl rfl (by decide) (fun cdv A outer s H E hr => ⟨_, (fss_one (fst_ret (fe_join fe_str (fe_sl (fe_fn C_path_words hr (L2N.takes_of rfl rfl rfl rfl) (fa_cons (fe_name 0) fa_nil)) fo_none (fo_some (fe_name 1))))))⟩)
abbrev sLevelMembers : Stmt := topS 17
theorem scLevelMembers : FnScope ["leaves", "level", "found", "leaf", "path"] ["leaves", "level"] (defScope sLevelMembers) := ⟨rfl, rfl, rfl, by decide +kernel, rfl, by decide +kernel, by decide +kernel⟩
theorem okLevelMembers {f : Addr} {fd : FuncData} {k : Nat} {T : List Addr}
    (FB : FunB K mg "level_members" sLevelMembers ["leaves", "level"] f fd)
    {fBeginning : Addr} {fdBeginning : FuncData} (C_beginning : Callee P w K mg base T "beginning" k ["path", "level"] (spF F_beginning) fBeginning fdBeginning)
    (m_tuple : mg "tuple" = none)
    (m_len : mg "len" = none) : Callee P w K mg base T "level_members" (k + 1) ["leaves", "level"] (spF F_level_members) f fd := by
  have nd := scLevelMembers.nd
  exact fl_fn 2 5 _ rfl FB scLevelMembers rfl rfl (by decide) (fun cdv A outer s H E hr => ⟨_, (fss_cons (fst_own 2 nd (fe_lst fa_nil))
      (fss_cons (fst_for (passes_of rfl) (fi_seq (fe_name 0)) (fg_name 3 nd) (fss_kill [3, 4] (fss_cons (fst_set 4 nd (fe_fn C_beginning hr (L2N.takes_of rfl rfl rfl rfl) (fa_cons (fe_name 3) (fa_cons (fe_name 1) fa_nil))))
      (fss_one (fst_if (FW.ft (fw_or (ft_eq hr.units (fe_len m_len (fa_cons (fe_name 2) fa_nil)) fe_int) (fw_or1 (ft_ne hr.units (fe_ix (fe_name 2) (fe_neg fe_int)) (fe_name 4))))) (fss_one (fst_expr (fe_append (fe_name 2) (fe_name 4)))) fss_nil)))))
      (fss_one (fst_ret (fe_tuplec m_tuple (fa_cons (fe_name 2) fa_nil))))))⟩)
abbrev sSpaceInit : Stmt := clsB (topS 18) 0
theorem scSpaceInit : FnScope ["self", "dimensions", "name", "leaves", "level", "leaf", "row"] ["self", "dimensions"] (defScope sSpaceInit) := ⟨rfl, rfl, rfl, by decide +kernel, rfl, by decide +kernel, by decide +kernel⟩
theorem okSpaceInit {f : Addr} {fd : FuncData} {k : Nat} {T : List Addr}
    (FB : FunI K mg "Space" "Space.__init__" sSpaceInit ["self", "dimensions"] f fd)
    (K_Space : Cls K (CM.at_ "Space"))
    (A_Space_table : NoAttr K (CM.at_ "Space") "table")
    (A_Space_many : NoAttr K (CM.at_ "Space") "many")
    (A_Space_inner : NoAttr K (CM.at_ "Space") "inner")
    (A_Space_dimensions : NoAttr K (CM.at_ "Space") "dimensions")
    (E_BadDimensions : ExcK K mg "BadDimensions")
    {fBeginning : Addr} {fdBeginning : FuncData} (C_beginning : Callee P w K mg base T "beginning" k ["path", "level"] (spF F_beginning) fBeginning fdBeginning)
    {fPathWords : Addr} {fdPathWords : FuncData} (C_path_words : Callee P w K mg base T "path_words" k ["path"] (spF F_path_words) fPathWords fdPathWords)
    {fLevelMembers : Addr} {fdLevelMembers : FuncData} (C_level_members : Callee P w K mg base T "level_members" k ["leaves", "level"] (spF F_level_members) fLevelMembers fdLevelMembers)
    {fAreDimensions : Addr} {fdAreDimensions : FuncData} (C_are_dimensions : Callee P w K mg base T "are_dimensions" k ["dimensions"] (spF F_are_dimensions) fAreDimensions fdAreDimensions)
    (m_len : mg "len" = none)
    (m_range : mg "range" = none)
    (m_tuple : mg "tuple" = none) : CCallee P w K mg base T "Space" (k + 1) ["self", "dimensions"] (spF F_Space___init) f fd := by
  have nd := scSpaceInit.nd
  exact fl_init 2 7 _ rfl FB scSpaceInit rfl rfl (by decide) (fun cdv A outer s H E hr => ⟨_, (fss_cons (fst_if (ft_not (ft_val (fe_fn C_are_dimensions hr (L2N.takes_of rfl rfl rfl rfl) (fa_cons (fe_name 1) fa_nil)))) (fss_one (fst_raise0 E_BadDimensions (L2N.takes_of rfl rfl rfl rfl))) fss_nil)
      (fss_cons (fst_fld (C := "Space") K_Space A_Space_dimensions (fe_name 0) (fe_tuplec m_tuple (fa_cons (fe_lc nd (fi_seq (fe_name 1)) ⟨(blkOk_by (N := ["self", "dimensions", "name", "leaves", "level", "leaf", "row"]) (sc := defScope sSpaceInit) (own := [("name", 2), ("leaves", 3)]) (by decide +kernel)), (by decide), (fun _ _ _ _ _ => VGt.re (fg_tup (fgs_cons (fg_name 2 nd) (fgs_cons (fg_name 3 nd) fgs_nil))) (by first | rfl | (dsimp only [L2.Cx.blk] <;> rfl))), (fun _ _ _ _ _ => VTs.re fts_nil (by first | rfl | (dsimp only [L2.Cx.blk] <;> rfl))), (fun _ _ _ _ _ => VE.re (fe_tup (fa_cons (fe_name 2) (fa_cons (fe_tuplec m_tuple (fa_cons (fe_name 3) fa_nil)) fa_nil))) (by first | rfl | (dsimp only [L2.Cx.blk] <;> rfl)))⟩) fa_nil)))
      (fss_cons (fst_fld (C := "Space") K_Space A_Space_table (fe_name 0) (fe_tuplec m_tuple (fa_cons (fe_lc nd (fi_seq (fe_fld (C := "Space") K_Space A_Space_dimensions (fe_name 0))) ⟨(blkOk_by (N := ["self", "dimensions", "name", "leaves", "level", "leaf", "row"]) (sc := defScope sSpaceInit) (own := [("name", 2), ("leaves", 3)]) (by decide +kernel)), (by decide), (fun _ _ _ _ _ => VGt.re (fg_tup (fgs_cons (fg_name 2 nd) (fgs_cons (fg_name 3 nd) fgs_nil))) (by first | rfl | (dsimp only [L2.Cx.blk] <;> rfl))), (fun _ _ _ _ _ => VTs.re fts_nil (by first | rfl | (dsimp only [L2.Cx.blk] <;> rfl))), (fun _ _ _ _ _ => VE.re (fe_tuplec m_tuple (fa_cons (fe_lc nd (fi_range1 m_range (fe_add (fe_len m_len (fa_cons (fe_fn C_path_words (by exact hr) takes0N (fa_cons (fe_ix (fe_name 3) fe_int) fa_nil)) fa_nil)) fe_int)) ⟨(blkOk_by (N := ["self", "dimensions", "name", "leaves", "level", "leaf", "row"]) (own := [("level", 4)]) (by kernel_rfl)), (by decide), (fun _ _ _ _ _ => (fg_name 4 nd)), (fun _ _ _ _ _ => VTs.re fts_nil (by first | rfl | (dsimp only [L2.Cx.blk] <;> rfl))), (fun _ _ _ _ _ => VE.re (fe_fn C_level_members (by exact hr) takes0N (fa_cons (fe_name 3) (fa_cons (fe_name 4) fa_nil))) (by first | rfl | (dsimp only [L2.Cx.blk] <;> rfl)))⟩) fa_nil)) (by first | rfl | (dsimp only [L2.Cx.blk] <;> rfl)))⟩) fa_nil)))
      (fss_cons (fst_fld (C := "Space") K_Space A_Space_inner (fe_name 0) (fe_tuplec m_tuple (fa_cons (fe_lc nd (fi_seq (fe_fld (C := "Space") K_Space A_Space_table (fe_name 0))) ⟨(blkOk_by (N := ["self", "dimensions", "name", "leaves", "level", "leaf", "row"]) (sc := defScope sSpaceInit) (own := [("row", 6)]) (by decide +kernel)), (by decide), (fun _ _ _ _ _ => (fg_name 6 nd)), (fun _ _ _ _ _ => VTs.re fts_nil (by first | rfl | (dsimp only [L2.Cx.blk] <;> rfl))), (fun _ _ _ _ _ => VE.re (fe_tuplec m_tuple (fa_cons (fe_lc nd (fi_range1 m_range (fe_len m_len (fa_cons (fe_name 6) fa_nil))) ⟨(blkOk_by (N := ["self", "dimensions", "name", "leaves", "level", "leaf", "row"]) (own := [("level", 4)]) (by kernel_rfl)), (by decide), (fun _ _ _ _ _ => (fg_name 4 nd)), (fun _ _ _ _ _ => VTs.re fts_nil (by first | rfl | (dsimp only [L2.Cx.blk] <;> rfl))), (fun _ _ _ _ _ => VE.re (fe_tuplec m_tuple (fa_cons (fe_lc nd (fi_seq (fe_ix (fe_name 6) (fe_neg fe_int))) ⟨(blkOk_by (N := ["self", "dimensions", "name", "leaves", "level", "leaf", "row"]) (own := [("leaf", 5)]) (by kernel_rfl)), (by decide), (fun _ _ _ _ _ => (fg_name 5 nd)), (fun _ _ _ _ _ => VTs.re fts_nil (by first | rfl | (dsimp only [L2.Cx.blk] <;> rfl))), (fun _ _ _ _ _ => VE.re (fe_idx (by have h := ru65 hr; exact h) (fe_ix (fe_name 6) (fe_name 4)) (fe_fn C_beginning (by exact hr) takes0N (fa_cons (fe_name 5) (fa_cons (fe_name 4) fa_nil)))) (by first | rfl | (dsimp only [L2.Cx.blk] <;> rfl)))⟩) fa_nil)) (by first | rfl | (dsimp only [L2.Cx.blk] <;> rfl)))⟩) fa_nil)) (by first | rfl | (dsimp only [L2.Cx.blk] <;> rfl)))⟩) fa_nil)))
      (fss_cons (fst_fld (C := "Space") K_Space A_Space_many (fe_name 0) fe_int)
      (fss_one (fst_for (passes_of rfl) (fi_seq (fe_fld (C := "Space") K_Space A_Space_table (fe_name 0))) (fg_name 6 nd) (fss_kill [6] (fss_one (fst_fld (C := "Space") K_Space A_Space_many (fe_name 0) (fe_mul (fe_fld (C := "Space") K_Space A_Space_many (fe_name 0)) (fe_len m_len (fa_cons (fe_ix (fe_name 6) (fe_neg fe_int)) fa_nil)))))))))))))⟩)
abbrev sLawIsWord : Stmt := topS 26
theorem scLawIsWord : FnScope ["_law_text", "_law_sign"] ["_law_text"] (defScope sLawIsWord) := ⟨rfl, rfl, rfl, by decide +kernel, rfl, by decide +kernel, by decide +kernel⟩
theorem okLawIsWord {f : Addr} {fd : FuncData} {k : Nat} {T : List Addr}
    (FB : FunB K mg "_law_is_word" sLawIsWord ["_law_text"] f fd)
    (m_all : mg "all" = none)
    (m_len : mg "len" = none) : Callee P w K mg base T "_law_is_word" (k + 1) ["_law_text"] (spF F_law_is_word) f fd := by
  have nd := scLawIsWord.nd
  exact fl_fn 1 2 _ rfl FB scLawIsWord rfl rfl (by decide) (fun cdv A outer s H E hr => ⟨_, (fss_cons (fst_if (FW.ft (fw_or (ft_lt (fe_len m_len (fa_cons (fe_name 0) fa_nil)) fe_int) (fw_or (ft_gt (fe_len m_len (fa_cons (fe_name 0) fa_nil)) fe_int) (fw_or1 (ft_in (ru65 hr) (fe_name 0) (fe_tup (fa_cons fe_str (fa_cons fe_str (fa_cons fe_str (fa_cons fe_str fa_nil)))))))))) (fss_one (fst_ret fe_bl)) fss_nil)
      (fss_one (fst_ret (fe_all m_all (fa_cons (fe_lc nd (fi_seq (fe_name 0)) ⟨(blkOk_by (N := ["_law_text", "_law_sign"]) (sc := defScope sLawIsWord) (own := [("_law_sign", 1)]) (by decide +kernel)), (by decide), (fun _ _ _ _ _ => (fg_name 1 nd)), (fun _ _ _ _ _ => VTs.re fts_nil (by first | rfl | (dsimp only [L2.Cx.blk] <;> rfl))), (fun _ _ _ _ _ => VE.re (fe_in (by have h := ru65 hr; exact h) (fe_name 1) fe_str) (by first | rfl | (dsimp only [L2.Cx.blk] <;> rfl)))⟩) fa_nil)))))⟩)
theorem okHLawIsWord {f : Addr} {fd : FuncData} {k : Nat} {T : List Addr}
    (FB : FunB K mg "_law_is_word" sLawIsWord ["_law_text"] f fd)
    (m_all : mg "all" = none)
    (m_len : mg "len" = none) : HCallee P w K mg base T "_law_is_word" (k + 1) ["_law_text"] (spF F_law_is_word) f fd := by
  have nd := scLawIsWord.nd
  exact fl_fnH 1 2 _ rfl FB scLawIsWord rfl rfl (by decide) (fun cdv A outer s H E p hc hr => ⟨_, (fss_cons (fst_if (FW.ft (fw_or (ft_lt (fe_len m_len (fa_cons (fe_name 0) fa_nil)) fe_int) (fw_or (ft_gt (fe_len m_len (fa_cons (fe_name 0) fa_nil)) fe_int) (fw_or1 (ft_in (hu5 hr) (fe_name 0) (fe_tup (fa_cons fe_str (fa_cons fe_str (fa_cons fe_str (fa_cons fe_str fa_nil)))))))))) (fss_one (fst_ret fe_bl)) fss_nil)
      (fss_one (fst_ret (fe_allH hc m_all (fa_cons (fe_lcH hc nd (fi_seqH (fe_name 0)) ⟨(blkOk_by (N := ["_law_text", "_law_sign"]) (sc := defScope sLawIsWord) (own := [("_law_sign", 1)]) (by decide +kernel)), (by decide), (fun _ _ _ _ _ p hp => (fg_name 1 nd)), (fun _ _ _ _ _ p hp => VTs.re fts_nil (by first | rfl | (dsimp only [blkH, L2.Cx.blk] <;> rfl))), (fun _ _ _ _ _ p hp => VE.re (fe_in (by have h := hu5 hr; exact h) (fe_name 1) fe_str) (by first | rfl | (dsimp only [blkH, L2.Cx.blk] <;> rfl)))⟩) fa_nil)))))⟩)
abbrev sLawLeafRows : Stmt := topS 32
theorem scLawLeafRows : FnScope ["_law_leaves_here", "_law_depth", "_law_at", "_law_words", "_law_word_here"] ["_law_leaves_here"] (defScope sLawLeafRows) := ⟨rfl, rfl, rfl, by decide +kernel, rfl, by decide +kernel, by decide +kernel⟩
theorem okLawLeafRows {f : Addr} {fd : FuncData} {k : Nat} {T : List Addr}
    (FB : FunB K mg "_law_leaf_rows" sLawLeafRows ["_law_leaves_here"] f fd)
    {fLawIsWord : Addr} {fdLawIsWord : FuncData} (C__law_is_word : Callee P w K mg base T "_law_is_word" k ["_law_text"] (spF F_law_is_word) fLawIsWord fdLawIsWord)
    (m_len : mg "len" = none)
    (m_range : mg "range" = none)
    (m_all : mg "all" = none) : Callee P w K mg base T "_law_leaf_rows" (k + 1) ["_law_leaves_here"] (spF F_law_leaf_rows) f fd := by
  have nd := scLawLeafRows.nd
  exact fl_fn 1 5 _ rfl FB scLawLeafRows rfl rfl (by decide) (fun cdv A outer s H E hr => ⟨_, (fss_cons (fst_if (FW.ft (fw_or (ft_lt (fe_len m_len (fa_cons (fe_name 0) fa_nil)) fe_int) (fw_or1 (ft_gt (fe_len m_len (fa_cons (fe_name 0) fa_nil)) fe_int)))) (fss_one (fst_ret fe_bl)) fss_nil)
      (fss_cons (fst_set 1 nd (fe_len m_len (fa_cons (fe_split (fe_ix (fe_name 0) fe_int) fe_str) fa_nil)))
      (fss_cons (fst_if (ft_gt (fe_name 1) fe_int) (fss_one (fst_ret fe_bl)) fss_nil)
      (fss_cons (fst_for (passes_of rfl) (fi_range1 m_range (fe_len m_len (fa_cons (fe_name 0) fa_nil))) (fg_name 2 nd) (fss_kill [2, 3] (fss_cons (fst_set 3 nd (fe_split (fe_ix (fe_name 0) (fe_name 2)) fe_str))
      (fss_cons (fst_if (FW.ft (fw_or (ft_ne hr.units (fe_len m_len (fa_cons (fe_name 3) fa_nil)) (fe_name 1)) (fw_or1 (ft_not (ft_val (fe_all m_all (fa_cons (fe_lc nd (fi_seq (fe_name 3)) ⟨(blkOk_by (N := ["_law_leaves_here", "_law_depth", "_law_at", "_law_words", "_law_word_here"]) (sc := defScope sLawLeafRows) (own := [("_law_word_here", 4)]) (by decide +kernel)), (by decide), (fun _ _ _ _ _ => (fg_name 4 nd)), (fun _ _ _ _ _ => VTs.re fts_nil (by first | rfl | (dsimp only [L2.Cx.blk] <;> rfl))), (fun _ _ _ _ _ => VE.re (fe_fn C__law_is_word (by exact hr) takes0N (fa_cons (fe_name 4) fa_nil)) (by first | rfl | (dsimp only [L2.Cx.blk] <;> rfl)))⟩) fa_nil))))))) (fss_one (fst_ret fe_bl)) fss_nil)
      (fss_one (fst_if (FW.ft (fw_and (ft_gt (fe_name 2) fe_int) (fw_and1 (ft_le (fe_ix (fe_name 0) (fe_name 2)) (fe_ix (fe_name 0) (fe_sub (fe_name 2) fe_int)))))) (fss_one (fst_ret fe_bl)) fss_nil))))))
      (fss_one (fst_ret fe_bl))))))⟩)
theorem okHLawLeafRows {f : Addr} {fd : FuncData} {k : Nat} {T : List Addr}
    (FB : FunB K mg "_law_leaf_rows" sLawLeafRows ["_law_leaves_here"] f fd)
    {fHLawIsWord : Addr} {fdHLawIsWord : FuncData} (CH__law_is_word : HCallee P w K mg base T "_law_is_word" k ["_law_text"] (spF F_law_is_word) fHLawIsWord fdHLawIsWord)
    (m_len : mg "len" = none)
    (m_range : mg "range" = none)
    (m_all : mg "all" = none) : HCallee P w K mg base T "_law_leaf_rows" (k + 1) ["_law_leaves_here"] (spF F_law_leaf_rows) f fd := by
  have nd := scLawLeafRows.nd
  exact fl_fnH 1 5 _ rfl FB scLawLeafRows rfl rfl (by decide) (fun cdv A outer s H E p hc hr => ⟨_, (fss_cons (fst_if (FW.ft (fw_or (ft_lt (fe_len m_len (fa_cons (fe_name 0) fa_nil)) fe_int) (fw_or1 (ft_gt (fe_len m_len (fa_cons (fe_name 0) fa_nil)) fe_int)))) (fss_one (fst_ret fe_bl)) fss_nil)
      (fss_cons (fst_set 1 nd (fe_len m_len (fa_cons (fe_split (fe_ix (fe_name 0) fe_int) fe_str) fa_nil)))
      (fss_cons (fst_if (ft_gt (fe_name 1) fe_int) (fss_one (fst_ret fe_bl)) fss_nil)
      (fss_cons (fst_forH (passes_of rfl) hc (fi_range1H m_range (fe_len m_len (fa_cons (fe_name 0) fa_nil))) (fg_name 2 nd) (fss_kill [2, 3] (fss_cons (fst_set 3 nd (fe_split (fe_ix (fe_name 0) (fe_name 2)) fe_str))
      (fss_cons (fst_if (FW.ft (fw_or (ft_ne (hu0 hr) (fe_len m_len (fa_cons (fe_name 3) fa_nil)) (fe_name 1)) (fw_or1 (ft_not (ft_val (fe_allH hc m_all (fa_cons (fe_lcH hc nd (fi_seqH (fe_name 3)) ⟨(blkOk_by (N := ["_law_leaves_here", "_law_depth", "_law_at", "_law_words", "_law_word_here"]) (sc := defScope sLawLeafRows) (own := [("_law_word_here", 4)]) (by decide +kernel)), (by decide), (fun _ _ _ _ _ p hp => (fg_name 4 nd)), (fun _ _ _ _ _ p hp => VTs.re fts_nil (by first | rfl | (dsimp only [blkH, L2.Cx.blk] <;> rfl))), (fun _ _ _ _ _ p hp => VE.re (fe_fnH CH__law_is_word (by exact hr) (blkH_hot hp) takes0N (fa_cons (fe_name 4) fa_nil)) (by first | rfl | (dsimp only [blkH, L2.Cx.blk] <;> rfl)))⟩) fa_nil))))))) (fss_one (fst_ret fe_bl)) fss_nil)
      (fss_one (fst_if (FW.ft (fw_and (ft_gt (fe_name 2) fe_int) (fw_and1 (ft_le (fe_ix (fe_name 0) (fe_name 2)) (fe_ix (fe_name 0) (fe_sub (fe_name 2) fe_int)))))) (fss_one (fst_ret fe_bl)) fss_nil))))))
      (fss_one (fst_ret fe_bl))))))⟩)
abbrev sLawAreDimensions : Stmt := topS 33
theorem scLawAreDimensions : FnScope ["_law_dimensions", "_law_names", "_law_dimension", "_law_cells", "_law_at"] ["_law_dimensions"] (defScope sLawAreDimensions) := ⟨rfl, rfl, rfl, by decide +kernel, rfl, by decide +kernel, by decide +kernel⟩
theorem okLawAreDimensions {f : Addr} {fd : FuncData} {k : Nat} {T : List Addr}
    (FB : FunB K mg "_law_are_dimensions" sLawAreDimensions ["_law_dimensions"] f fd)
    {fLawLeafRows : Addr} {fdLawLeafRows : FuncData} (C__law_leaf_rows : Callee P w K mg base T "_law_leaf_rows" k ["_law_leaves_here"] (spF F_law_leaf_rows) fLawLeafRows fdLawLeafRows)
    {fLawIsWord : Addr} {fdLawIsWord : FuncData} (C__law_is_word : Callee P w K mg base T "_law_is_word" k ["_law_text"] (spF F_law_is_word) fLawIsWord fdLawIsWord)
    (m_len : mg "len" = none)
    (m_range : mg "range" = none) : Callee P w K mg base T "_law_are_dimensions" (k + 1) ["_law_dimensions"] (spF F_law_are_dimensions) f fd := by
  have nd := scLawAreDimensions.nd
  exact fl_fn 1 5 _ rfl FB scLawAreDimensions rfl rfl (by decide) (fun cdv A outer s H E hr => ⟨_, (fss_cons (fst_if (FW.ft (fw_or (ft_lt (fe_len m_len (fa_cons (fe_name 0) fa_nil)) fe_int) (fw_or1 (ft_gt (fe_len m_len (fa_cons (fe_name 0) fa_nil)) fe_int)))) (fss_one (fst_ret fe_bl)) fss_nil)
      (fss_cons (fst_setLc 1 nd (fi_seq (fe_name 0)) ⟨(blkOk_by (N := ["_law_dimensions", "_law_names", "_law_dimension", "_law_cells", "_law_at"]) (sc := defScope sLawAreDimensions) (own := [("_law_dimension", 2)]) (by decide +kernel)), (by decide), (fun _ _ _ _ _ => (fg_name 2 nd)), (fun _ _ _ _ _ => VTs.re fts_nil (by first | rfl | (dsimp only [L2.Cx.blk] <;> rfl))), (fun _ _ _ _ _ => VE.re (fe_ix (fe_name 2) fe_int) (by first | rfl | (dsimp only [L2.Cx.blk] <;> rfl)))⟩ (sw_true rfl rfl rfl (by decide +kernel)))
      (fss_cons (fst_set 3 nd fe_int)
      (fss_cons (fst_for (passes_of rfl) (fi_range1 m_range (fe_len m_len (fa_cons (fe_name 0) fa_nil))) (fg_name 4 nd) (fss_kill [4] (fss_cons (fst_if (FW.ft (fw_or (ft_not (ft_val (fe_fn C__law_is_word hr (L2N.takes_of rfl rfl rfl rfl) (fa_cons (fe_ix (fe_name 1) (fe_name 4)) fa_nil)))) (fw_or (ft_in (ru65 hr) (fe_ix (fe_name 1) (fe_name 4)) (fe_sl (fe_name 1) fo_none (fo_some (fe_name 4)))) (fw_or1 (ft_not (ft_val (fe_fn C__law_leaf_rows hr (L2N.takes_of rfl rfl rfl rfl) (fa_cons (fe_ix (fe_ix (fe_name 0) (fe_name 4)) fe_int) fa_nil)))))))) (fss_one (fst_ret fe_bl)) fss_nil)
      (fss_one (fst_set 3 nd (fe_mul (fe_name 3) (fe_len m_len (fa_cons (fe_ix (fe_ix (fe_name 0) (fe_name 4)) fe_int) fa_nil))))))))
      (fss_one (fst_ret (fe_le (fe_name 3) fe_int)))))))⟩)
theorem okHLawAreDimensions {f : Addr} {fd : FuncData} {k : Nat} {T : List Addr}
    (FB : FunB K mg "_law_are_dimensions" sLawAreDimensions ["_law_dimensions"] f fd)
    {fHLawLeafRows : Addr} {fdHLawLeafRows : FuncData} (CH__law_leaf_rows : HCallee P w K mg base T "_law_leaf_rows" k ["_law_leaves_here"] (spF F_law_leaf_rows) fHLawLeafRows fdHLawLeafRows)
    {fHLawIsWord : Addr} {fdHLawIsWord : FuncData} (CH__law_is_word : HCallee P w K mg base T "_law_is_word" k ["_law_text"] (spF F_law_is_word) fHLawIsWord fdHLawIsWord)
    (m_len : mg "len" = none)
    (m_range : mg "range" = none) : HCallee P w K mg base T "_law_are_dimensions" (k + 1) ["_law_dimensions"] (spF F_law_are_dimensions) f fd := by
  have nd := scLawAreDimensions.nd
  exact fl_fnH 1 5 _ rfl FB scLawAreDimensions rfl rfl (by decide) (fun cdv A outer s H E p hc hr => ⟨_, (fss_cons (fst_if (FW.ft (fw_or (ft_lt (fe_len m_len (fa_cons (fe_name 0) fa_nil)) fe_int) (fw_or1 (ft_gt (fe_len m_len (fa_cons (fe_name 0) fa_nil)) fe_int)))) (fss_one (fst_ret fe_bl)) fss_nil)
      (fss_cons (fst_setLcH 1 hc nd (fi_seqH (fe_name 0)) ⟨(blkOk_by (N := ["_law_dimensions", "_law_names", "_law_dimension", "_law_cells", "_law_at"]) (sc := defScope sLawAreDimensions) (own := [("_law_dimension", 2)]) (by decide +kernel)), (by decide), (fun _ _ _ _ _ p hp => (fg_name 2 nd)), (fun _ _ _ _ _ p hp => VTs.re fts_nil (by first | rfl | (dsimp only [blkH, L2.Cx.blk] <;> rfl))), (fun _ _ _ _ _ p hp => VE.re (fe_ix (fe_name 2) fe_int) (by first | rfl | (dsimp only [blkH, L2.Cx.blk] <;> rfl)))⟩ (sw_true rfl rfl rfl (by decide +kernel)))
      (fss_cons (fst_set 3 nd fe_int)
      (fss_cons (fst_forH (passes_of rfl) hc (fi_range1H m_range (fe_len m_len (fa_cons (fe_name 0) fa_nil))) (fg_name 4 nd) (fss_kill [4] (fss_cons (fst_if (FW.ft (fw_or (ft_not (ft_val (fe_fnH CH__law_is_word hr hc (L2N.takes_of rfl rfl rfl rfl) (fa_cons (fe_ix (fe_name 1) (fe_name 4)) fa_nil)))) (fw_or (ft_in (hu5 hr) (fe_ix (fe_name 1) (fe_name 4)) (fe_sl (fe_name 1) fo_none (fo_some (fe_name 4)))) (fw_or1 (ft_not (ft_val (fe_fnH CH__law_leaf_rows hr hc (L2N.takes_of rfl rfl rfl rfl) (fa_cons (fe_ix (fe_ix (fe_name 0) (fe_name 4)) fe_int) fa_nil)))))))) (fss_one (fst_ret fe_bl)) fss_nil)
      (fss_one (fst_set 3 nd (fe_mul (fe_name 3) (fe_len m_len (fa_cons (fe_ix (fe_ix (fe_name 0) (fe_name 4)) fe_int) fa_nil))))))))
      (fss_one (fst_ret (fe_le (fe_name 3) fe_int)))))))⟩)
abbrev sLawIsInteger : Stmt := topS 24
theorem scLawIsInteger : FnScope ["_law_actual"] ["_law_actual"] (defScope sLawIsInteger) := ⟨rfl, rfl, rfl, by decide +kernel, rfl, by decide +kernel, by decide +kernel⟩
theorem okLawIsInteger {f : Addr} {fd : FuncData} {k : Nat} {T : List Addr}
    (FB : FunB K mg "_law_is_integer" sLawIsInteger ["_law_actual"] f fd)
    (m_isinstance : mg "isinstance" = none)
    (m_bool : mg "bool" = none)
    (m_int : mg "int" = none) : Callee P w K mg base T "_law_is_integer" (k + 1) ["_law_actual"] (spF F_law_is_integer) f fd := by
  have nd := scLawIsInteger.nd
  exact fl_fn 1 1 _ rfl FB scLawIsInteger rfl rfl (by decide) (fun cdv A outer s H E hr => ⟨_, (fss_one (fst_ret (fe_andB (fe_isi .int m_isinstance m_int VL.boot_int (fe_name 0)) (fe_one (fe_not (fe_isi .bool m_isinstance m_bool VL.boot_bool (fe_name 0)))))))⟩)
abbrev sLawSame : Stmt := topS 25
theorem scLawSame : FnScope ["_law_actual", "_law_due", "_law_at"] ["_law_actual", "_law_due"] (defScope sLawSame) := ⟨rfl, rfl, rfl, by decide +kernel, rfl, by decide +kernel, by decide +kernel⟩
theorem okLawSame {f : Addr} {fd : FuncData} {k n : Nat} {T : List Addr}
    (FB : FunB K mg "_law_same" sLawSame ["_law_actual", "_law_due"] f fd)
    {fLawIsInteger : Addr} {fdLawIsInteger : FuncData} (C__law_is_integer : Callee P w K mg base T "_law_is_integer" k ["_law_actual"] (spF F_law_is_integer) fLawIsInteger fdLawIsInteger)
    {fLawSame : Addr} {fdLawSame : FuncData} (C__law_same : Callee P w K mg base T "_law_same" k ["_law_actual", "_law_due"] (spF (F_law_same n)) fLawSame fdLawSame)
    (m_isinstance : mg "isinstance" = none)
    (m_str : mg "str" = none)
    (m_int : mg "int" = none)
    (m_bool : mg "bool" = none)
    (m_tuple : mg "tuple" = none)
    (m_len : mg "len" = none)
    (m_range : mg "range" = none)
    (m_all : mg "all" = none) : Callee P w K mg base T "_law_same" (k + 1) ["_law_actual", "_law_due"] (spF (F_law_same (n + 1))) f fd := by
  have nd := scLawSame.nd
  exact fl_fn 2 3 _ rfl FB scLawSame rfl rfl (by decide) (fun cdv A outer s H E hr => ⟨_, (fss_cons (fst_if (ft_val (fe_isi .tuple m_isinstance m_tuple VL.boot_tuple (fe_name 1))) (fss_cons (fst_if (FW.ft (fw_or (ft_not (ft_val (fe_isi .tuple m_isinstance m_tuple VL.boot_tuple (fe_name 0)))) (fw_or1 (ft_ne hr.units (fe_len m_len (fa_cons (fe_name 0) fa_nil)) (fe_len m_len (fa_cons (fe_name 1) fa_nil)))))) (fss_one (fst_ret fe_bl)) fss_nil)
      (fss_one (fst_ret (fe_all m_all (fa_cons (fe_lc nd (fi_range1 m_range (fe_len m_len (fa_cons (fe_name 1) fa_nil))) ⟨(blkOk_by (N := ["_law_actual", "_law_due", "_law_at"]) (sc := defScope sLawSame) (own := [("_law_at", 2)]) (by decide +kernel)), (by decide), (fun _ _ _ _ _ => (fg_name 2 nd)), (fun _ _ _ _ _ => VTs.re fts_nil (by first | rfl | (dsimp only [L2.Cx.blk] <;> rfl))), (fun _ _ _ _ _ => VE.re (fe_fn C__law_same (by exact hr) takes0N (fa_cons (fe_ix (fe_name 0) (fe_name 2)) (fa_cons (fe_ix (fe_name 1) (fe_name 2)) fa_nil))) (by first | rfl | (dsimp only [L2.Cx.blk] <;> rfl)))⟩) fa_nil))))) fss_nil)
      (fss_cons (fst_if (ft_val (fe_isi .bool m_isinstance m_bool VL.boot_bool (fe_name 1))) (fss_one (fst_ret (fe_andB (fe_isi .bool m_isinstance m_bool VL.boot_bool (fe_name 0)) (fe_one (fe_eq hr.units (fe_name 0) (fe_name 1)))))) fss_nil)
      (fss_cons (fst_if (ft_val (fe_isi .int m_isinstance m_int VL.boot_int (fe_name 1))) (fss_one (fst_ret (fe_andB (fe_fn C__law_is_integer hr (L2N.takes_of rfl rfl rfl rfl) (fa_cons (fe_name 0) fa_nil)) (fe_one (fe_eq hr.units (fe_name 0) (fe_name 1)))))) fss_nil)
      (fss_cons (fst_if (ft_val (fe_isi .str m_isinstance m_str VL.boot_str (fe_name 1))) (fss_one (fst_ret (fe_andB (fe_isi .str m_isinstance m_str VL.boot_str (fe_name 0)) (fe_one (fe_eq hr.units (fe_name 0) (fe_name 1)))))) fss_nil)
      (fss_one (fst_ret (fe_andB (fe_isN (fe_name 0) fe_non) (fe_one (fe_isN (fe_name 1) fe_non)))))))))⟩)
abbrev sLawAText : Stmt := topS 27
theorem scLawAText : FnScope ["_law_box_here", "_law_marks", "_law_text", "_law_k", "_law_at"] ["_law_box_here"] (defScope sLawAText) := ⟨rfl, rfl, rfl, by decide +kernel, rfl, by decide +kernel, by decide +kernel⟩
theorem okLawAText {f : Addr} {fd : FuncData} {k : Nat} {T : List Addr}
    (FB : FunB K mg "_law_a_text" sLawAText ["_law_box_here"] f fd)
    {fLawDraw : Addr} {fdLawDraw : FuncData} (C__law_draw : Callee P w K mg base T "_law_draw" k ["_law_box_here", "_law_many"] (spF F_law_draw) fLawDraw fdLawDraw)
    (m_len : mg "len" = none)
    (m_range : mg "range" = none) : Callee P w K mg base T "_law_a_text" (k + 1) ["_law_box_here"] (spF F_law_a_text) f fd := by
  have nd := scLawAText.nd
  exact fl_fn 1 5 _ rfl FB scLawAText rfl rfl (by decide) (fun cdv A outer s H E hr => ⟨_, (fss_cons (fst_set 1 nd fe_str)
      (fss_cons (fst_if (ft_eq hr.units (fe_fn C__law_draw hr (L2N.takes_of rfl rfl rfl rfl) (fa_cons (fe_name 0) (fa_cons fe_int fa_nil))) fe_int) (fss_one (fst_ret (fe_ix (fe_tup (fa_cons fe_str (fa_cons fe_str (fa_cons fe_str (fa_cons fe_str (fa_cons fe_str (fa_cons fe_str fa_nil))))))) (fe_fn C__law_draw hr (L2N.takes_of rfl rfl rfl rfl) (fa_cons (fe_name 0) (fa_cons fe_int fa_nil)))))) fss_nil)
      (fss_cons (fst_set 2 nd fe_str)
      (fss_cons (fst_for (passes_of rfl) (fi_range1 m_range (fe_fn C__law_draw hr (L2N.takes_of rfl rfl rfl rfl) (fa_cons (fe_name 0) (fa_cons fe_int fa_nil)))) (fg_name 3 nd) (fss_kill [3] (fss_one (fst_set 2 nd (fe_add (fe_name 2) (fe_ix (fe_name 1) (fe_fn C__law_draw hr (L2N.takes_of rfl rfl rfl rfl) (fa_cons (fe_name 0) (fa_cons fe_int fa_nil)))))))))
      (fss_cons (fst_kill [4] (fst_if (ft_eq hr.units (fe_fn C__law_draw hr (L2N.takes_of rfl rfl rfl rfl) (fa_cons (fe_name 0) (fa_cons fe_int fa_nil))) fe_int) (fss_cons (fst_set 4 nd (fe_fn C__law_draw hr (L2N.takes_of rfl rfl rfl rfl) (fa_cons (fe_name 0) (fa_cons (fe_add (fe_len m_len (fa_cons (fe_name 2) fa_nil)) fe_int) fa_nil))))
      (fss_one (fst_set 2 nd (fe_add (fe_add (fe_sl (fe_name 2) fo_none (fo_some (fe_name 4))) (fe_ix fe_str (fe_fn C__law_draw hr (L2N.takes_of rfl rfl rfl rfl) (fa_cons (fe_name 0) (fa_cons fe_int fa_nil))))) (fe_sl (fe_name 2) (fo_some (fe_name 4)) fo_none))))) fss_nil))
      (fss_one (fst_ret (fe_name 2))))))))⟩)
abbrev sLawChangedLeaves : Stmt := topS 34
theorem scLawChangedLeaves : FnScope ["_law_box_here", "_law_leaves_here", "_law_rows", "_law_at", "_law_other", "_law_kind", "_law_row", "_law_words", "_law_marks", "_law_k"] ["_law_box_here", "_law_leaves_here"] (defScope sLawChangedLeaves) := ⟨rfl, rfl, rfl, by decide +kernel, rfl, by decide +kernel, by decide +kernel⟩
theorem okLawChangedLeaves {f : Addr} {fd : FuncData} {k : Nat} {T : List Addr}
    (FB : FunB K mg "_law_changed_leaves" sLawChangedLeaves ["_law_box_here", "_law_leaves_here"] f fd)
    {fLawWord : Addr} {fdLawWord : FuncData} (C__law_word : Callee P w K mg base T "_law_word" k ["_law_box_here", "_law_taken"] (spF F_law_word) fLawWord fdLawWord)
    {fLawAText : Addr} {fdLawAText : FuncData} (C__law_a_text : Callee P w K mg base T "_law_a_text" k ["_law_box_here"] (spF F_law_a_text) fLawAText fdLawAText)
    {fLawDraw : Addr} {fdLawDraw : FuncData} (C__law_draw : Callee P w K mg base T "_law_draw" k ["_law_box_here", "_law_many"] (spF F_law_draw) fLawDraw fdLawDraw)
    (m_tuple : mg "tuple" = none)
    (m_len : mg "len" = none)
    (m_range : mg "range" = none)
    (m_list : mg "list" = none) : Callee P w K mg base T "_law_changed_leaves" (k + 1) ["_law_box_here", "_law_leaves_here"] (spF F_law_changed_leaves) f fd := by
  have nd := scLawChangedLeaves.nd
  exact fl_fn 2 10 _ rfl FB scLawChangedLeaves rfl rfl (by decide) (fun cdv A outer s H E hr => ⟨_, (fss_cons (fst_own 2 nd (fe_listc m_list (fa_cons (fe_name 1) fa_nil)))
      (fss_cons (fst_set 3 nd (fe_fn C__law_draw hr (L2N.takes_of rfl rfl rfl rfl) (fa_cons (fe_name 0) (fa_cons (fe_len m_len (fa_cons (fe_name 2) fa_nil)) fa_nil))))
      (fss_cons (fst_set 4 nd (fe_fn C__law_draw hr (L2N.takes_of rfl rfl rfl rfl) (fa_cons (fe_name 0) (fa_cons (fe_len m_len (fa_cons (fe_name 2) fa_nil)) fa_nil))))
      (fss_cons (fst_set 5 nd (fe_fn C__law_draw hr (L2N.takes_of rfl rfl rfl rfl) (fa_cons (fe_name 0) (fa_cons fe_int fa_nil))))
      (fss_cons (fst_kill [7, 8] (fst_if (ft_eq hr.units (fe_name 5) fe_int) (fss_one (fst_own 2 nd (fe_sl (fe_name 2) fo_none (fo_some fe_int)))) (fss_one (fst_kill [7, 8] (fst_if (ft_eq hr.units (fe_name 5) fe_int) (fss_cons (fst_asg (fe_ix (fe_name 1) (fe_name 4)) (fg_sub (fe_name 2) (fe_name 3)))
      (fss_one (fst_asg (fe_ix (fe_name 1) (fe_name 3)) (fg_sub (fe_name 2) (fe_name 4))))) (fss_one (fst_kill [7, 8] (fst_if (ft_eq hr.units (fe_name 5) fe_int) (fss_one (fst_own 2 nd (fe_add (fe_add (fe_sl (fe_name 2) fo_none (fo_some (fe_name 3))) (fe_lst (fa_cons (fe_ix (fe_name 2) (fe_name 3)) fa_nil))) (fe_sl (fe_name 2) (fo_some (fe_name 3)) fo_none)))) (fss_one (fst_kill [7, 8] (fst_if (ft_eq hr.units (fe_name 5) fe_int) (fss_one (fst_ownLc 2 nd (fi_seq (fe_name 2)) ⟨(blkOk_by (N := ["_law_box_here", "_law_leaves_here", "_law_rows", "_law_at", "_law_other", "_law_kind", "_law_row", "_law_words", "_law_marks", "_law_k"]) (sc := defScope sLawChangedLeaves) (own := [("_law_row", 6)]) (by decide +kernel)), (by decide), (fun _ _ _ _ _ => (fg_name 6 nd)), (fun _ _ _ _ _ => VTs.re fts_nil (by first | rfl | (dsimp only [L2.Cx.blk] <;> rfl))), (fun _ _ _ _ _ => VE.re (fe_add (fe_add (fe_name 6) fe_str) (fe_fn C__law_word (by exact hr) takes0N (fa_cons (fe_name 0) (fa_cons (fe_lst fa_nil) fa_nil)))) (by first | rfl | (dsimp only [L2.Cx.blk] <;> rfl)))⟩ (sw_true rfl rfl rfl (by decide +kernel)))) (fss_one (fst_kill [7, 8] (fst_if (ft_eq hr.units (fe_name 5) fe_int) (fss_one (fst_asg (fe_add (fe_add (fe_ix (fe_name 2) (fe_name 3)) fe_str) (fe_fn C__law_word hr (L2N.takes_of rfl rfl rfl rfl) (fa_cons (fe_name 0) (fa_cons (fe_lst fa_nil) fa_nil)))) (fg_sub (fe_name 2) (fe_name 3)))) (fss_one (fst_kill [7, 8] (fst_if (ft_eq hr.units (fe_name 5) fe_int) (fss_cons (fst_own 7 nd (fe_split (fe_ix (fe_name 2) (fe_name 3)) fe_str))
      (fss_cons (fst_asg (fe_fn C__law_a_text hr (L2N.takes_of rfl rfl rfl rfl) (fa_cons (fe_name 0) fa_nil)) (fg_sub (fe_name 7) (fe_fn C__law_draw (by exact hr) takes0N (fa_cons (fe_name 0) (fa_cons (fe_len m_len (fa_cons (fe_name 7) fa_nil)) fa_nil)))))
      (fss_one (fst_asg (fe_join fe_str (fe_name 7)) (fg_sub (fe_name 2) (fe_name 3)))))) (fss_one (fst_kill [8] (fst_if (ft_eq hr.units (fe_name 5) fe_int) (fss_cons (fst_set 8 nd fe_str)
      (fss_one (fst_ownLc 2 nd (fi_range1 m_range (fe_add fe_int (fe_fn C__law_draw hr (L2N.takes_of rfl rfl rfl rfl) (fa_cons (fe_name 0) (fa_cons fe_int fa_nil))))) ⟨(blkOk_by (N := ["_law_box_here", "_law_leaves_here", "_law_rows", "_law_at", "_law_other", "_law_kind", "_law_row", "_law_words", "_law_marks", "_law_k"]) (sc := defScope sLawChangedLeaves) (own := [("_law_k", 9)]) (by decide +kernel)), (by decide), (fun _ _ _ _ _ => (fg_name 9 nd)), (fun _ _ _ _ _ => VTs.re fts_nil (by first | rfl | (dsimp only [L2.Cx.blk] <;> rfl))), (fun _ _ _ _ _ => VE.re (fe_ix (fe_name 8) (fe_name 9)) (by first | rfl | (dsimp only [L2.Cx.blk] <;> rfl)))⟩ (sw_true rfl rfl rfl (by decide +kernel))))) (fss_one (fst_asg fe_str (fg_sub (fe_name 2) (fe_name 3))))))))))))))))))))))))
      (fss_one (fst_ret (fe_tuplec m_tuple (fa_cons (fe_name 2) fa_nil)))))))))⟩)
abbrev sLawChanged : Stmt := topS 35
theorem scLawChanged : FnScope ["_law_box_here", "_law_dimensions", "_law_at", "_law_kind", "_law_row"] ["_law_box_here", "_law_dimensions"] (defScope sLawChanged) := ⟨rfl, rfl, rfl, by decide +kernel, rfl, by decide +kernel, by decide +kernel⟩
theorem okLawChanged {f : Addr} {fd : FuncData} {k : Nat} {T : List Addr}
    (FB : FunB K mg "_law_changed" sLawChanged ["_law_box_here", "_law_dimensions"] f fd)
    {fLawChangedLeaves : Addr} {fdLawChangedLeaves : FuncData} (C__law_changed_leaves : Callee P w K mg base T "_law_changed_leaves" k ["_law_box_here", "_law_leaves_here"] (spF F_law_changed_leaves) fLawChangedLeaves fdLawChangedLeaves)
    {fLawWord : Addr} {fdLawWord : FuncData} (C__law_word : Callee P w K mg base T "_law_word" k ["_law_box_here", "_law_taken"] (spF F_law_word) fLawWord fdLawWord)
    {fLawAText : Addr} {fdLawAText : FuncData} (C__law_a_text : Callee P w K mg base T "_law_a_text" k ["_law_box_here"] (spF F_law_a_text) fLawAText fdLawAText)
    {fLawDraw : Addr} {fdLawDraw : FuncData} (C__law_draw : Callee P w K mg base T "_law_draw" k ["_law_box_here", "_law_many"] (spF F_law_draw) fLawDraw fdLawDraw)
    (m_len : mg "len" = none) : Callee P w K mg base T "_law_changed" (k + 1) ["_law_box_here", "_law_dimensions"] (spF F_law_changed) f fd := by
  have nd := scLawChanged.nd
  exact fl_fn 2 5 _ rfl FB scLawChanged rfl rfl (by decide) (fun cdv A outer s H E hr => ⟨_, (fss_cons (fst_set 2 nd (fe_fn C__law_draw hr (L2N.takes_of rfl rfl rfl rfl) (fa_cons (fe_name 0) (fa_cons (fe_len m_len (fa_cons (fe_name 1) fa_nil)) fa_nil))))
      (fss_cons (fst_set 3 nd (fe_fn C__law_draw hr (L2N.takes_of rfl rfl rfl rfl) (fa_cons (fe_name 0) (fa_cons fe_int fa_nil))))
      (fss_cons (fst_if (ft_eq hr.units (fe_name 3) fe_int) (fss_one (fst_ret (fe_sl (fe_name 1) fo_none (fo_some (fe_name 2))))) fss_nil)
      (fss_cons (fst_if (ft_eq hr.units (fe_name 3) fe_int) (fss_one (fst_ret (fe_add (fe_add (fe_sl (fe_name 1) fo_none (fo_some (fe_name 2))) (fe_lst (fa_cons (fe_tup (fa_cons (fe_fn C__law_a_text hr (L2N.takes_of rfl rfl rfl rfl) (fa_cons (fe_name 0) fa_nil)) (fa_cons (fe_ix (fe_ix (fe_name 1) (fe_name 2)) fe_int) fa_nil))) fa_nil))) (fe_sl (fe_name 1) (fo_some (fe_add (fe_name 2) fe_int)) fo_none)))) fss_nil)
      (fss_cons (fst_if (ft_eq hr.units (fe_name 3) fe_int) (fss_one (fst_ret (fe_add (fe_name 1) (fe_lst (fa_cons (fe_tup (fa_cons (fe_fn C__law_word hr (L2N.takes_of rfl rfl rfl rfl) (fa_cons (fe_name 0) (fa_cons (fe_lc nd (fi_seq (fe_name 1)) ⟨(blkOk_by (N := ["_law_box_here", "_law_dimensions", "_law_at", "_law_kind", "_law_row"]) (sc := defScope sLawChanged) (own := [("_law_row", 4)]) (by decide +kernel)), (by decide), (fun _ _ _ _ _ => (fg_name 4 nd)), (fun _ _ _ _ _ => VTs.re fts_nil (by first | rfl | (dsimp only [L2.Cx.blk] <;> rfl))), (fun _ _ _ _ _ => VE.re (fe_ix (fe_name 4) fe_int) (by first | rfl | (dsimp only [L2.Cx.blk] <;> rfl)))⟩) fa_nil))) (fa_cons (fe_ix (fe_ix (fe_name 1) (fe_name 2)) fe_int) fa_nil))) fa_nil))))) fss_nil)
      (fss_cons (fst_if (ft_eq hr.units (fe_name 3) fe_int) (fss_one (fst_ret (fe_add (fe_name 1) (fe_lst (fa_cons (fe_ix (fe_name 1) (fe_name 2)) fa_nil))))) fss_nil)
      (fss_one (fst_ret (fe_add (fe_add (fe_sl (fe_name 1) fo_none (fo_some (fe_name 2))) (fe_lst (fa_cons (fe_tup (fa_cons (fe_ix (fe_ix (fe_name 1) (fe_name 2)) fe_int) (fa_cons (fe_fn C__law_changed_leaves hr (L2N.takes_of rfl rfl rfl rfl) (fa_cons (fe_name 0) (fa_cons (fe_ix (fe_ix (fe_name 1) (fe_name 2)) fe_int) fa_nil))) fa_nil))) fa_nil))) (fe_sl (fe_name 1) (fo_some (fe_add (fe_name 2) fe_int)) fo_none))))))))))⟩)
abbrev sLaw : Stmt := topS 36
theorem scLaw : FnScope ["_law_script", "_law_dimensions", "_law_box_here", "_law_turn", "_law_handed", "_law_space", "e"] ["_law_script"] (defScope sLaw) := ⟨rfl, rfl, rfl, by decide +kernel, rfl, by decide +kernel, by decide +kernel⟩
theorem okLaw {f : Addr} {fd : FuncData} {k : Nat} {T : List Addr}
    (FB : FunB K mg "law" sLaw ["_law_script"] f fd)
    (K_Space : Cls K (CM.at_ "Space"))
    (A_Space_dimensions : NoAttr K (CM.at_ "Space") "dimensions")
    (X_CubeError : ("CubeError" : Str) ∈ CM.xs) (GC_CubeError : mg "CubeError" = some (.ref (CM.at_ "CubeError")))
    (X_BadDimensions : ("BadDimensions" : Str) ∈ CM.xs) (GC_BadDimensions : mg "BadDimensions" = some (.ref (CM.at_ "BadDimensions")))
    {fHLawAreDimensions : Addr} {fdHLawAreDimensions : FuncData} (CH__law_are_dimensions : HCallee P w K mg base T "_law_are_dimensions" k ["_law_dimensions"] (spF F_law_are_dimensions) fHLawAreDimensions fdHLawAreDimensions)
    {fLawSame : Addr} {fdLawSame : FuncData} (C__law_same : Callee P w K mg base T "_law_same" k ["_law_actual", "_law_due"] (spF (F_law_same 4)) fLawSame fdLawSame)
    {fLawAreDimensions : Addr} {fdLawAreDimensions : FuncData} (C__law_are_dimensions : Callee P w K mg base T "_law_are_dimensions" k ["_law_dimensions"] (spF F_law_are_dimensions) fLawAreDimensions fdLawAreDimensions)
    {fSpaceInit : Addr} {fdSpaceInit : FuncData} {kc_Space___init__ : Nat} (hk_Space___init__ : kc_Space___init__ + 1 ≤ k) (C_Space___init__ : CCallee P w K mg base T "Space" kc_Space___init__ ["self", "dimensions"] (spF F_Space___init) fSpaceInit fdSpaceInit)
    {fLawDraw : Addr} {fdLawDraw : FuncData} (C__law_draw : Callee P w K mg base T "_law_draw" k ["_law_box_here", "_law_many"] (spF F_law_draw) fLawDraw fdLawDraw)
    {fLawChanged : Addr} {fdLawChanged : FuncData} (C__law_changed : Callee P w K mg base T "_law_changed" k ["_law_box_here", "_law_dimensions"] (spF F_law_changed) fLawChanged fdLawChanged)
    {fLawBox : Addr} {fdLawBox : FuncData} (C__law_box : Callee P w K mg base T "_law_box" k ["_law_script", "_law_at"] (spF F_law_box) fLawBox fdLawBox)
    {fLawWide : Addr} {fdLawWide : FuncData} (C__law_wide : Callee P w K mg base T "_law_wide" k ["_law_script", "_law_first", "_law_cells_left"] (spF F_law_wide) fLawWide fdLawWide)
    (m_isinstance : mg "isinstance" = none)
    (m_ValueError : mg "ValueError" = none)
    (m_tuple : mg "tuple" = none)
    (m_range : mg "range" = none)
    (m_len : mg "len" = none)
    (m_list : mg "list" = none) : Callee P w K mg base T "law" (k + 1) ["_law_script"] (spF F_law_k03) f fd := by
  have nd := scLaw.nd
  exact fl_fn 1 7 _ rfl FB scLaw rfl rfl (by decide) (fun cdv A outer s H E hr => ⟨_, (fss_cons (fst_set 1 nd (fe_listc m_list (fa_cons (fe_fn C__law_wide hr (L2N.takes_of rfl rfl rfl rfl) (fa_cons (fe_name 0) (fa_cons fe_int (fa_cons fe_int fa_nil)))) fa_nil)))
      (fss_cons (fst_own 2 nd (fe_fn C__law_box hr (L2N.takes_of rfl rfl rfl rfl) (fa_cons (fe_name 0) (fa_cons fe_int fa_nil))))
      (fss_cons (fst_for (passes_of rfl) (fi_range1 m_range (fe_fn C__law_draw hr (L2N.takes_of rfl rfl rfl rfl) (fa_cons (fe_name 2) (fa_cons fe_int fa_nil)))) (fg_name 3 nd) (fss_kill [3] (fss_one (fst_if (ft_gt (fe_len m_len (fa_cons (fe_name 1) fa_nil)) fe_int) (fss_one (fst_set 1 nd (fe_fn C__law_changed hr (L2N.takes_of rfl rfl rfl rfl) (fa_cons (fe_name 2) (fa_cons (fe_name 1) fa_nil))))) fss_nil))))
      (fss_cons (fst_set 4 nd (fe_tuplec m_tuple (fa_cons (fe_name 1) fa_nil)))
      (fss_cons (fst_tryF (i := 6) (Y := "CubeError") (L2N.takes_of rfl rfl rfl rfl) X_CubeError GC_CubeError rfl (fun W pn xe tk po => ⟨_, (fss_one (fst_set 5 nd (fe_makeK hk_Space___init__ C_Space___init__ (by exact hr) tk (fa_cons (fe_name 4) fa_nil)))), by dsimp only [L2.Cx.tr]⟩) (fun C fs gs a oe pn d l hE hz hfv hD => ⟨_, (fss_one (fst_ret (fe_andB (fe_isF (C := C) (Y := "BadDimensions") X_BadDimensions hE hz hfv hD GC_BadDimensions m_isinstance) (fe_andB (fe_isFV (C := C) hE hz hfv hD m_isinstance m_ValueError) (fe_one (fe_not (fe_fnH CH__law_are_dimensions (roomS (by exact hr)) (hotS hz hfv) takes0N (fa_cons (fe_name 4) fa_nil)))))))), by dsimp only [L2.Cx.suite]⟩) nd)
      (fss_one (fst_ret (fe_andB (fe_fn C__law_are_dimensions hr (L2N.takes_of rfl rfl rfl rfl) (fa_cons (fe_name 4) fa_nil)) (fe_one (fe_fn C__law_same hr (L2N.takes_of rfl rfl rfl rfl) (fa_cons (fe_fld (C := "Space") K_Space A_Space_dimensions (fe_name 5)) (fa_cons (fe_name 4) fa_nil))))))))))))⟩)
end
end K03
set_option Elab.async false
set_option linter.all false
set_option maxRecDepth 100000
set_option maxHeartbeats 4000000
namespace K03
open PySem PySem.Spec PyProof.Rows L2 VL
section
variable {P : Program} {w : World} {K : PySem.W.Frag} {mg : Str → Option Value} {base : Heap}
theorem ok_all [CM]
    {T : List Addr}
    {fLawDigits : Addr} {dLawDigits : FuncData} (FLawDigits : FunB K mg "_law_digits" sLawDigits ["_law_cell_here", "_law_at"] fLawDigits dLawDigits)
    {fLawCell : Addr} {dLawCell : FuncData} (FLawCell : FunB K mg "_law_cell" sLawCell ["_law_script", "_law_k"] fLawCell dLawCell)
    {fLawBox : Addr} {dLawBox : FuncData} (FLawBox : FunB K mg "_law_box" sLawBox ["_law_script", "_law_at"] fLawBox dLawBox)
    {fLawDraw : Addr} {dLawDraw : FuncData} (FLawDraw : FunB K mg "_law_draw" sLawDraw ["_law_box_here", "_law_many"] fLawDraw dLawDraw)
    {fLawWord : Addr} {dLawWord : FuncData} (FLawWord : FunB K mg "_law_word" sLawWord ["_law_box_here", "_law_taken"] fLawWord dLawWord)
    {fLawPlainLeaves : Addr} {dLawPlainLeaves : FuncData} (FLawPlainLeaves : FunB K mg "_law_plain_leaves" sLawPlainLeaves ["_law_depth", "_law_many"] fLawPlainLeaves dLawPlainLeaves)
    {fLawLeaves : Addr} {dLawLeaves : FuncData} (FLawLeaves : FunB K mg "_law_leaves" sLawLeaves ["_law_box_here", "_law_depth", "_law_many"] fLawLeaves dLawLeaves)
    {fLawWide : Addr} {dLawWide : FuncData} (FLawWide : FunB K mg "_law_wide" sLawWide ["_law_script", "_law_first", "_law_cells_left"] fLawWide dLawWide)
    {fIsWord cAIsWord PIsWord : Addr} {dIsWord : FuncData} (FIsWord : FunG K mg "is_word" sIsWord ["text"] fIsWord dIsWord cAIsWord) (TBIsWord : GxR.TabB base mg cAIsWord PIsWord) (hPIsWord : PIsWord ∈ T)
    {fPathWords : Addr} {dPathWords : FuncData} (FPathWords : FunB K mg "path_words" sPathWords ["path"] fPathWords dPathWords)
    {fAreLeaves cAAreLeaves PAreLeaves : Addr} {dAreLeaves : FuncData} (FAreLeaves : FunG K mg "are_leaves" sAreLeaves ["leaves"] fAreLeaves dAreLeaves cAAreLeaves) (TBAreLeaves : GxR.TabB base mg cAAreLeaves PAreLeaves) (hPAreLeaves : PAreLeaves ∈ T)
    {fAreDimensions : Addr} {dAreDimensions : FuncData} (FAreDimensions : FunB K mg "are_dimensions" sAreDimensions ["dimensions"] fAreDimensions dAreDimensions)
    {fBeginning : Addr} {dBeginning : FuncData} (FBeginning : FunB K mg "beginning" sBeginning ["path", "level"] fBeginning dBeginning)
    {fLevelMembers : Addr} {dLevelMembers : FuncData} (FLevelMembers : FunB K mg "level_members" sLevelMembers ["leaves", "level"] fLevelMembers dLevelMembers)
    {fSpaceInit : Addr} {dSpaceInit : FuncData} (FSpaceInit : FunI K mg "Space" "Space.__init__" sSpaceInit ["self", "dimensions"] fSpaceInit dSpaceInit)
    {fLawIsWord : Addr} {dLawIsWord : FuncData} (FLawIsWord : FunB K mg "_law_is_word" sLawIsWord ["_law_text"] fLawIsWord dLawIsWord)
    {fLawLeafRows : Addr} {dLawLeafRows : FuncData} (FLawLeafRows : FunB K mg "_law_leaf_rows" sLawLeafRows ["_law_leaves_here"] fLawLeafRows dLawLeafRows)
    {fLawAreDimensions : Addr} {dLawAreDimensions : FuncData} (FLawAreDimensions : FunB K mg "_law_are_dimensions" sLawAreDimensions ["_law_dimensions"] fLawAreDimensions dLawAreDimensions)
    {fLawIsInteger : Addr} {dLawIsInteger : FuncData} (FLawIsInteger : FunB K mg "_law_is_integer" sLawIsInteger ["_law_actual"] fLawIsInteger dLawIsInteger)
    {fLawSame : Addr} {dLawSame : FuncData} (FLawSame : FunB K mg "_law_same" sLawSame ["_law_actual", "_law_due"] fLawSame dLawSame)
    {fLawAText : Addr} {dLawAText : FuncData} (FLawAText : FunB K mg "_law_a_text" sLawAText ["_law_box_here"] fLawAText dLawAText)
    {fLawChangedLeaves : Addr} {dLawChangedLeaves : FuncData} (FLawChangedLeaves : FunB K mg "_law_changed_leaves" sLawChangedLeaves ["_law_box_here", "_law_leaves_here"] fLawChangedLeaves dLawChangedLeaves)
    {fLawChanged : Addr} {dLawChanged : FuncData} (FLawChanged : FunB K mg "_law_changed" sLawChanged ["_law_box_here", "_law_dimensions"] fLawChanged dLawChanged)
    {fLaw : Addr} {dLaw : FuncData} (FLaw : FunB K mg "law" sLaw ["_law_script"] fLaw dLaw)
    (K_Space : Cls K (CM.at_ "Space"))
    (A_Space_table : NoAttr K (CM.at_ "Space") "table")
    (A_Space_many : NoAttr K (CM.at_ "Space") "many")
    (A_Space_inner : NoAttr K (CM.at_ "Space") "inner")
    (A_Space_dimensions : NoAttr K (CM.at_ "Space") "dimensions")
    (E_BadDimensions : ExcK K mg "BadDimensions")
    (X_CubeError : ("CubeError" : Str) ∈ CM.xs) (GC_CubeError : mg "CubeError" = some (.ref (CM.at_ "CubeError")))
    (X_BadDimensions : ("BadDimensions" : Str) ∈ CM.xs) (GC_BadDimensions : mg "BadDimensions" = some (.ref (CM.at_ "BadDimensions")))
    (m_range : mg "range" = none)
    (m_int : mg "int" = none)
    (m_len : mg "len" = none)
    (m_tuple : mg "tuple" = none)
    (m_sorted : mg "sorted" = none)
    (m_min : mg "min" = none)
    (m_all : mg "all" = none)
    (m_isinstance : mg "isinstance" = none)
    (m_bool : mg "bool" = none)
    (m_str : mg "str" = none)
    (m_list : mg "list" = none)
    (m_ValueError : mg "ValueError" = none)
    {v_LETTERS : V} (G_LETTERS : GlobK K mg "LETTERS" (.str "abcdefghijklmnopqrstuvwxyz") v_LETTERS)
    {v_RESERVED : V} (G_RESERVED : GlobK K mg "RESERVED" (.tup [(.str "sum"), (.str "where"), (.str "in"), (.str "and")]) v_RESERVED)
    {v_LONGEST_WORD : V} (G_LONGEST_WORD : GlobK K mg "LONGEST_WORD" (.int 8) v_LONGEST_WORD)
    {v_MOST_DEPTH : V} (G_MOST_DEPTH : GlobK K mg "MOST_DEPTH" (.int 3) v_MOST_DEPTH)
    {v_MOST_LEAVES : V} (G_MOST_LEAVES : GlobK K mg "MOST_LEAVES" (.int 8) v_MOST_LEAVES)
    {v_MOST_CELLS : V} (G_MOST_CELLS : GlobK K mg "MOST_CELLS" (.int 48) v_MOST_CELLS)
    {v_MOST_DIMENSIONS : V} (G_MOST_DIMENSIONS : GlobK K mg "MOST_DIMENSIONS" (.int 3) v_MOST_DIMENSIONS) : FnOk P w K mg base (L2N.CX P w) 8 fLaw dLaw ["_law_script"] (spOf K T (spF F_law_k03)) := by
  have CLawDigits := okLawDigits (P := P) (w := w) (K := K) (mg := mg) (base := base) (T := T) (k := 0) FLawDigits    (m_range := m_range) (m_int := m_int)
  have CLawCell := okLawCell (P := P) (w := w) (K := K) (mg := mg) (base := base) (T := T) (k := 0) FLawCell    (m_len := m_len) (m_int := m_int)
  have CLawBox := okLawBox (P := P) (w := w) (K := K) (mg := mg) (base := base) (T := T) (k := 1) FLawBox  (C__law_digits := (CLawDigits.mono (by decide))) (C__law_cell := (CLawCell.mono (by decide)))  
  have CLawDraw := okLawDraw (P := P) (w := w) (K := K) (mg := mg) (base := base) (T := T) (k := 0) FLawDraw    (m_len := m_len) (m_int := m_int)
  have CLawWord := okLawWord (P := P) (w := w) (K := K) (mg := mg) (base := base) (T := T) (k := 1) FLawWord  (C__law_draw := (CLawDraw.mono (by decide)))  (m_range := m_range)
  have CLawPlainLeaves := okLawPlainLeaves (P := P) (w := w) (K := K) (mg := mg) (base := base) (T := T) (k := 0) FLawPlainLeaves    (m_tuple := m_tuple) (m_range := m_range)
  have CLawLeaves := okLawLeaves (P := P) (w := w) (K := K) (mg := mg) (base := base) (T := T) (k := 2) FLawLeaves  (C__law_draw := (CLawDraw.mono (by decide))) (C__law_word := (CLawWord.mono (by decide)))  (m_sorted := m_sorted) (m_tuple := m_tuple) (m_len := m_len) (m_range := m_range)
  have CLawWide := okLawWide (P := P) (w := w) (K := K) (mg := mg) (base := base) (T := T) (k := 3) FLawWide  (C__law_draw := (CLawDraw.mono (by decide))) (C__law_word := (CLawWord.mono (by decide))) (C__law_plain_leaves := (CLawPlainLeaves.mono (by decide))) (C__law_leaves := (CLawLeaves.mono (by decide))) (C__law_box := (CLawBox.mono (by decide)))  (m_tuple := m_tuple) (m_range := m_range) (m_len := m_len) (m_min := m_min)
  have CIsWord := okIsWord (P := P) (w := w) (K := K) (mg := mg) (base := base) (T := T) (k := 0) FIsWord (TB := TBIsWord) (hPt := hPIsWord)   (m_all := m_all) (m_len := m_len) (G_LETTERS := G_LETTERS) (G_RESERVED := G_RESERVED) (G_LONGEST_WORD := G_LONGEST_WORD)
  have CPathWords := okPathWords (P := P) (w := w) (K := K) (mg := mg) (base := base) (T := T) (k := 0) FPathWords    (m_tuple := m_tuple)
  have CAreLeaves := okAreLeaves (P := P) (w := w) (K := K) (mg := mg) (base := base) (T := T) (k := 2) FAreLeaves (TB := TBAreLeaves) (hPt := hPAreLeaves) (C_is_word := (CIsWord.mono (by decide))) (C_path_words := (CPathWords.mono (by decide)))  (m_len := m_len) (m_range := m_range) (m_all := m_all) (G_MOST_DEPTH := G_MOST_DEPTH) (G_MOST_LEAVES := G_MOST_LEAVES)
  have CAreDimensions := okAreDimensions (P := P) (w := w) (K := K) (mg := mg) (base := base) (T := T) (k := 4) FAreDimensions  (C_are_leaves := (CAreLeaves.mono (by decide))) (C_is_word := (CIsWord.mono (by decide)))  (m_len := m_len) (G_MOST_CELLS := G_MOST_CELLS) (G_MOST_DIMENSIONS := G_MOST_DIMENSIONS)
  have CBeginning := okBeginning (P := P) (w := w) (K := K) (mg := mg) (base := base) (T := T) (k := 1) FBeginning  (C_path_words := (CPathWords.mono (by decide)))  
  have CLevelMembers := okLevelMembers (P := P) (w := w) (K := K) (mg := mg) (base := base) (T := T) (k := 2) FLevelMembers  (C_beginning := (CBeginning.mono (by decide)))  (m_tuple := m_tuple) (m_len := m_len)
  have CSpaceInit := okSpaceInit (P := P) (w := w) (K := K) (mg := mg) (base := base) (T := T) (k := 5) FSpaceInit  (C_beginning := (CBeginning.mono (by decide))) (C_path_words := (CPathWords.mono (by decide))) (C_level_members := (CLevelMembers.mono (by decide))) (C_are_dimensions := (CAreDimensions.mono (by decide))) (K_Space := K_Space) (A_Space_table := A_Space_table) (A_Space_many := A_Space_many) (A_Space_inner := A_Space_inner) (A_Space_dimensions := A_Space_dimensions) (E_BadDimensions := E_BadDimensions) (m_len := m_len) (m_range := m_range) (m_tuple := m_tuple)
  have CHLawIsWord := okHLawIsWord (P := P) (w := w) (K := K) (mg := mg) (base := base) (T := T) (k := 0) FLawIsWord  (m_all := m_all) (m_len := m_len)
  have CLawIsWord := okLawIsWord (P := P) (w := w) (K := K) (mg := mg) (base := base) (T := T) (k := 0) FLawIsWord    (m_all := m_all) (m_len := m_len)
  have CHLawLeafRows := okHLawLeafRows (P := P) (w := w) (K := K) (mg := mg) (base := base) (T := T) (k := 1) FLawLeafRows (CH__law_is_word := (CHLawIsWord.mono (by decide))) (m_len := m_len) (m_range := m_range) (m_all := m_all)
  have CLawLeafRows := okLawLeafRows (P := P) (w := w) (K := K) (mg := mg) (base := base) (T := T) (k := 1) FLawLeafRows  (C__law_is_word := (CLawIsWord.mono (by decide)))  (m_len := m_len) (m_range := m_range) (m_all := m_all)
  have CHLawAreDimensions := okHLawAreDimensions (P := P) (w := w) (K := K) (mg := mg) (base := base) (T := T) (k := 2) FLawAreDimensions (CH__law_leaf_rows := (CHLawLeafRows.mono (by decide))) (CH__law_is_word := (CHLawIsWord.mono (by decide))) (m_len := m_len) (m_range := m_range)
  have CLawAreDimensions := okLawAreDimensions (P := P) (w := w) (K := K) (mg := mg) (base := base) (T := T) (k := 2) FLawAreDimensions  (C__law_leaf_rows := (CLawLeafRows.mono (by decide))) (C__law_is_word := (CLawIsWord.mono (by decide)))  (m_len := m_len) (m_range := m_range)
  have CLawIsInteger := okLawIsInteger (P := P) (w := w) (K := K) (mg := mg) (base := base) (T := T) (k := 0) FLawIsInteger    (m_isinstance := m_isinstance) (m_bool := m_bool) (m_int := m_int)
  have CLawSame_0 : Callee P w K mg base T "_law_same" 1 ["_law_actual", "_law_due"] (spF (F_law_same 0)) fLawSame dLawSame := VL.Callee.none0 FLawSame
  have CLawSame_1 := okLawSame (P := P) (w := w) (K := K) (mg := mg) (base := base) (T := T) (n := 0) (k := 1) FLawSame  (C__law_is_integer := (CLawIsInteger.mono (by decide))) (C__law_same := CLawSame_0)  (m_isinstance := m_isinstance) (m_str := m_str) (m_int := m_int) (m_bool := m_bool) (m_tuple := m_tuple) (m_len := m_len) (m_range := m_range) (m_all := m_all)
  have CLawSame_2 := okLawSame (P := P) (w := w) (K := K) (mg := mg) (base := base) (T := T) (n := 1) (k := 2) FLawSame  (C__law_is_integer := (CLawIsInteger.mono (by decide))) (C__law_same := CLawSame_1)  (m_isinstance := m_isinstance) (m_str := m_str) (m_int := m_int) (m_bool := m_bool) (m_tuple := m_tuple) (m_len := m_len) (m_range := m_range) (m_all := m_all)
  have CLawSame_3 := okLawSame (P := P) (w := w) (K := K) (mg := mg) (base := base) (T := T) (n := 2) (k := 3) FLawSame  (C__law_is_integer := (CLawIsInteger.mono (by decide))) (C__law_same := CLawSame_2)  (m_isinstance := m_isinstance) (m_str := m_str) (m_int := m_int) (m_bool := m_bool) (m_tuple := m_tuple) (m_len := m_len) (m_range := m_range) (m_all := m_all)
  have CLawSame_4 := okLawSame (P := P) (w := w) (K := K) (mg := mg) (base := base) (T := T) (n := 3) (k := 4) FLawSame  (C__law_is_integer := (CLawIsInteger.mono (by decide))) (C__law_same := CLawSame_3)  (m_isinstance := m_isinstance) (m_str := m_str) (m_int := m_int) (m_bool := m_bool) (m_tuple := m_tuple) (m_len := m_len) (m_range := m_range) (m_all := m_all)
  have CLawSame := CLawSame_4
  have CLawAText := okLawAText (P := P) (w := w) (K := K) (mg := mg) (base := base) (T := T) (k := 1) FLawAText  (C__law_draw := (CLawDraw.mono (by decide)))  (m_len := m_len) (m_range := m_range)
  have CLawChangedLeaves := okLawChangedLeaves (P := P) (w := w) (K := K) (mg := mg) (base := base) (T := T) (k := 2) FLawChangedLeaves  (C__law_word := (CLawWord.mono (by decide))) (C__law_a_text := (CLawAText.mono (by decide))) (C__law_draw := (CLawDraw.mono (by decide)))  (m_tuple := m_tuple) (m_len := m_len) (m_range := m_range) (m_list := m_list)
  have CLawChanged := okLawChanged (P := P) (w := w) (K := K) (mg := mg) (base := base) (T := T) (k := 3) FLawChanged  (C__law_changed_leaves := (CLawChangedLeaves.mono (by decide))) (C__law_word := (CLawWord.mono (by decide))) (C__law_a_text := (CLawAText.mono (by decide))) (C__law_draw := (CLawDraw.mono (by decide)))  (m_len := m_len)
  have CLaw := okLaw (P := P) (w := w) (K := K) (mg := mg) (base := base) (T := T) (k := 7) FLaw  (C__law_same := (CLawSame.mono (by decide))) (C__law_are_dimensions := (CLawAreDimensions.mono (by decide))) (hk_Space___init__ := by decide) (C_Space___init__ := CSpaceInit) (C__law_draw := (CLawDraw.mono (by decide))) (C__law_changed := (CLawChanged.mono (by decide))) (C__law_box := (CLawBox.mono (by decide))) (C__law_wide := (CLawWide.mono (by decide))) (K_Space := K_Space) (A_Space_dimensions := A_Space_dimensions) (CH__law_are_dimensions := (CHLawAreDimensions.mono (by decide))) (X_CubeError := X_CubeError) (GC_CubeError := GC_CubeError) (X_BadDimensions := X_BadDimensions) (GC_BadDimensions := GC_BadDimensions) (m_isinstance := m_isinstance) (m_ValueError := m_ValueError) (m_tuple := m_tuple) (m_range := m_range) (m_len := m_len) (m_list := m_list)
  exact CLaw.ok
end
theorem all_mk {l : PySem.W.OpenLaw} {w : World} {K : PySem.W.Frag} {h : Heap} {mg : Str → Option Value} {fa : Addr} (X : K.In h) (G : h.Ns mainGlobals mg) (hfa : mg "law" = some (.ref fa)) (own : ∀ y ∈ [("is_word" : Str), ("are_leaves" : Str)], ∀ fb : Addr, mg y = some (.ref fb) → LamX.OwnTab K fb h)
    {aSpace : Addr}
    (xSpace : PySem.W.nsIn K mainGlobals "Space" = some (some (.ref aSpace)))
    {aBadDimensions : Addr}
    (xBadDimensions : PySem.W.nsIn K mainGlobals "BadDimensions" = some (some (.ref aBadDimensions)))
    {aCubeError : Addr}
    (xCubeError : PySem.W.nsIn K mainGlobals "CubeError" = some (some (.ref aCubeError)))
    (kc1Space : PySem.W.plainGet K aSpace Str.empty = true)
    (kc2Space : PySem.W.hasDictIn K aSpace = true)
    (kc3Space : PySem.W.plainOver K aSpace = true)
    (kc4Space : PySem.W.findIn K (.ref aSpace) "__setattr__" = some (some (.builtin "object.__setattr__")))
    (na_Space_table : PySem.W.findIn K (.ref aSpace) "table" = some none)
    (na_Space_many : PySem.W.findIn K (.ref aSpace) "many" = some none)
    (na_Space_inner : PySem.W.findIn K (.ref aSpace) "inner" = some none)
    (na_Space_dimensions : PySem.W.findIn K (.ref aSpace) "dimensions" = some none)
    (ex0BadDimensions : PySem.W.excIn K aBadDimensions [.type "ValueError", .type "Exception", .type "BaseException", .type "object"] "ValueError.__new__" = true)
    (ex1BadDimensions : PySem.W.keepIn K (.ref aBadDimensions) = true)
    (ex2BadDimensions : PySem.W.subIn K (.ref aBadDimensions) (.type "BaseException") = some true)
    (ex3BadDimensions : PySem.W.typeIn K (.ref aBadDimensions) = some (.type "type"))
    (ex4BadDimensions : PySem.W.findIn K (.ref aBadDimensions) "__getattribute__" = some (some (.builtin "BaseException.__getattribute__")))
    (ex5BadDimensions : PySem.W.findIn K (.ref aBadDimensions) "__getattr__" = some none)
    (ex6BadDimensions : PySem.W.hasDictIn K aBadDimensions = true)
    (ex7BadDimensions : PySem.W.findIn K (.ref aBadDimensions) "__class__" = some (some (.builtin "object.__class__")))
    (ex8BadDimensions : PySem.W.specialIn K (.builtin "object.__class__") "__get__" = some (some (.builtin "getset_descriptor.__get__")))
    (ex9BadDimensions : PySem.W.takesIn K (.builtin "object.__class__") = some true)
    (exvBadDimensions : PySem.W.subIn K (.ref aBadDimensions) (.type "ValueError") = some true)
    (exaBadDimensions : PySem.W.mroIn K aBadDimensions (.type "object") = some true)
    (excBadDimensions : PySem.W.isClsIn K aBadDimensions = true)
    (exN0BadDimensions : PySem.W.findIn K (.ref aBadDimensions) "name" = some none)
    (exN1BadDimensions : PySem.W.findIn K (.ref aBadDimensions) "at" = some none)
    (exN2BadDimensions : PySem.W.findIn K (.ref aBadDimensions) "count" = some none)
    (exmBadDimensions_CubeError : PySem.W.subIn K (.ref aBadDimensions) (.ref aCubeError) = some true)
    (exmBadDimensions_BadDimensions : PySem.W.subIn K (.ref aBadDimensions) (.ref aBadDimensions) = some true)
    (exbCubeError : PySem.W.subIn K (.ref aCubeError) (.type "BaseException") = some true)
    (exiCubeError : PySem.W.isClsIn K aCubeError = true)
    (extCubeError : PySem.W.typeIn K (.ref aCubeError) = some (.type "type"))
    (exbBadDimensions : PySem.W.subIn K (.ref aBadDimensions) (.type "BaseException") = some true)
    (exiBadDimensions : PySem.W.isClsIn K aBadDimensions = true)
    (extBadDimensions : PySem.W.typeIn K (.ref aBadDimensions) = some (.type "type"))
    {odLawDigits anLawDigits : Option Addr} {slLawDigits : Array (Option Value)} {ocLawDigits kVLawDigits dcLawDigits pmLawDigits cdLawDigits ctLawDigits : Value} {aLawDigits : Addr}
    (xLawDigits : PySem.W.nsIn K mainGlobals "_law_digits" = some (some (.ref aLawDigits))) (lLawDigits : K.lookup aLawDigits = some ⟨ocLawDigits, odLawDigits, .func (PySem.W.fnOf "_law_digits" "_law_digits" (defArgs sLawDigits) (defBody sLawDigits) (defScope sLawDigits) .none kVLawDigits dcLawDigits pmLawDigits anLawDigits cdLawDigits ctLawDigits), slLawDigits⟩) (cLawDigits : PySem.W.codeIn K cdLawDigits "_law_digits" = true) (kLawDigits : PySem.W.keepIn K (.ref aLawDigits) = true)
    {odLawCell anLawCell : Option Addr} {slLawCell : Array (Option Value)} {ocLawCell kVLawCell dcLawCell pmLawCell cdLawCell ctLawCell : Value} {aLawCell : Addr}
    (xLawCell : PySem.W.nsIn K mainGlobals "_law_cell" = some (some (.ref aLawCell))) (lLawCell : K.lookup aLawCell = some ⟨ocLawCell, odLawCell, .func (PySem.W.fnOf "_law_cell" "_law_cell" (defArgs sLawCell) (defBody sLawCell) (defScope sLawCell) .none kVLawCell dcLawCell pmLawCell anLawCell cdLawCell ctLawCell), slLawCell⟩) (cLawCell : PySem.W.codeIn K cdLawCell "_law_cell" = true) (kLawCell : PySem.W.keepIn K (.ref aLawCell) = true)
    {odLawBox anLawBox : Option Addr} {slLawBox : Array (Option Value)} {ocLawBox kVLawBox dcLawBox pmLawBox cdLawBox ctLawBox : Value} {aLawBox : Addr}
    (xLawBox : PySem.W.nsIn K mainGlobals "_law_box" = some (some (.ref aLawBox))) (lLawBox : K.lookup aLawBox = some ⟨ocLawBox, odLawBox, .func (PySem.W.fnOf "_law_box" "_law_box" (defArgs sLawBox) (defBody sLawBox) (defScope sLawBox) .none kVLawBox dcLawBox pmLawBox anLawBox cdLawBox ctLawBox), slLawBox⟩) (cLawBox : PySem.W.codeIn K cdLawBox "_law_box" = true) (kLawBox : PySem.W.keepIn K (.ref aLawBox) = true)
    {odLawDraw anLawDraw : Option Addr} {slLawDraw : Array (Option Value)} {ocLawDraw kVLawDraw dcLawDraw pmLawDraw cdLawDraw ctLawDraw : Value} {aLawDraw : Addr}
    (xLawDraw : PySem.W.nsIn K mainGlobals "_law_draw" = some (some (.ref aLawDraw))) (lLawDraw : K.lookup aLawDraw = some ⟨ocLawDraw, odLawDraw, .func (PySem.W.fnOf "_law_draw" "_law_draw" (defArgs sLawDraw) (defBody sLawDraw) (defScope sLawDraw) .none kVLawDraw dcLawDraw pmLawDraw anLawDraw cdLawDraw ctLawDraw), slLawDraw⟩) (cLawDraw : PySem.W.codeIn K cdLawDraw "_law_draw" = true) (kLawDraw : PySem.W.keepIn K (.ref aLawDraw) = true)
    {odLawWord anLawWord : Option Addr} {slLawWord : Array (Option Value)} {ocLawWord kVLawWord dcLawWord pmLawWord cdLawWord ctLawWord : Value} {aLawWord : Addr}
    (xLawWord : PySem.W.nsIn K mainGlobals "_law_word" = some (some (.ref aLawWord))) (lLawWord : K.lookup aLawWord = some ⟨ocLawWord, odLawWord, .func (PySem.W.fnOf "_law_word" "_law_word" (defArgs sLawWord) (defBody sLawWord) (defScope sLawWord) .none kVLawWord dcLawWord pmLawWord anLawWord cdLawWord ctLawWord), slLawWord⟩) (cLawWord : PySem.W.codeIn K cdLawWord "_law_word" = true) (kLawWord : PySem.W.keepIn K (.ref aLawWord) = true)
    {odLawPlainLeaves anLawPlainLeaves : Option Addr} {slLawPlainLeaves : Array (Option Value)} {ocLawPlainLeaves kVLawPlainLeaves dcLawPlainLeaves pmLawPlainLeaves cdLawPlainLeaves ctLawPlainLeaves : Value} {aLawPlainLeaves : Addr}
    (xLawPlainLeaves : PySem.W.nsIn K mainGlobals "_law_plain_leaves" = some (some (.ref aLawPlainLeaves))) (lLawPlainLeaves : K.lookup aLawPlainLeaves = some ⟨ocLawPlainLeaves, odLawPlainLeaves, .func (PySem.W.fnOf "_law_plain_leaves" "_law_plain_leaves" (defArgs sLawPlainLeaves) (defBody sLawPlainLeaves) (defScope sLawPlainLeaves) .none kVLawPlainLeaves dcLawPlainLeaves pmLawPlainLeaves anLawPlainLeaves cdLawPlainLeaves ctLawPlainLeaves), slLawPlainLeaves⟩) (cLawPlainLeaves : PySem.W.codeIn K cdLawPlainLeaves "_law_plain_leaves" = true) (kLawPlainLeaves : PySem.W.keepIn K (.ref aLawPlainLeaves) = true)
    {odLawLeaves anLawLeaves : Option Addr} {slLawLeaves : Array (Option Value)} {ocLawLeaves kVLawLeaves dcLawLeaves pmLawLeaves cdLawLeaves ctLawLeaves : Value} {aLawLeaves : Addr}
    (xLawLeaves : PySem.W.nsIn K mainGlobals "_law_leaves" = some (some (.ref aLawLeaves))) (lLawLeaves : K.lookup aLawLeaves = some ⟨ocLawLeaves, odLawLeaves, .func (PySem.W.fnOf "_law_leaves" "_law_leaves" (defArgs sLawLeaves) (defBody sLawLeaves) (defScope sLawLeaves) .none kVLawLeaves dcLawLeaves pmLawLeaves anLawLeaves cdLawLeaves ctLawLeaves), slLawLeaves⟩) (cLawLeaves : PySem.W.codeIn K cdLawLeaves "_law_leaves" = true) (kLawLeaves : PySem.W.keepIn K (.ref aLawLeaves) = true)
    {odLawWide anLawWide : Option Addr} {slLawWide : Array (Option Value)} {ocLawWide kVLawWide dcLawWide pmLawWide cdLawWide ctLawWide : Value} {aLawWide : Addr}
    (xLawWide : PySem.W.nsIn K mainGlobals "_law_wide" = some (some (.ref aLawWide))) (lLawWide : K.lookup aLawWide = some ⟨ocLawWide, odLawWide, .func (PySem.W.fnOf "_law_wide" "_law_wide" (defArgs sLawWide) (defBody sLawWide) (defScope sLawWide) .none kVLawWide dcLawWide pmLawWide anLawWide cdLawWide ctLawWide), slLawWide⟩) (cLawWide : PySem.W.codeIn K cdLawWide "_law_wide" = true) (kLawWide : PySem.W.keepIn K (.ref aLawWide) = true)
    {odIsWord anIsWord : Option Addr} {slIsWord : Array (Option Value)} {ocIsWord kVIsWord dcIsWord pmIsWord ctIsWord : Value} {aIsWord cAIsWord PIsWord : Addr} {eIsWord : Value} {ddIsWord : Option Addr} {vsIsWord : Array Value} {scIsWord : Array (Option Value)}
    (xIsWord : PySem.W.nsIn K mainGlobals "is_word" = some (some (.ref aIsWord))) (lIsWord : K.lookup aIsWord = some ⟨ocIsWord, odIsWord, .func (PySem.W.fnOf "is_word" "is_word" (defArgs sIsWord) (defBody sIsWord) (defScope sIsWord) .none kVIsWord dcIsWord pmIsWord anIsWord (.ref cAIsWord) ctIsWord), slIsWord⟩) (cIsWord : PySem.W.codeIn K (.ref cAIsWord) "is_word" = true) (kIsWord : PySem.W.keepIn K (.ref aIsWord) = true)
    (t1IsWord : K.lookup cAIsWord = some ⟨eIsWord, ddIsWord, .fields vsIsWord, scIsWord⟩) (t2IsWord : vsIsWord[11]? = some (.ref PIsWord)) (t3IsWord : PySem.W.codeHdIn [(cAIsWord, ⟨eIsWord, ddIsWord, .fields vsIsWord, scIsWord⟩)] cAIsWord PIsWord = true) (t4IsWord : K.lookup PIsWord = none)
    {odPathWords anPathWords : Option Addr} {slPathWords : Array (Option Value)} {ocPathWords kVPathWords dcPathWords pmPathWords cdPathWords ctPathWords : Value} {aPathWords : Addr}
    (xPathWords : PySem.W.nsIn K mainGlobals "path_words" = some (some (.ref aPathWords))) (lPathWords : K.lookup aPathWords = some ⟨ocPathWords, odPathWords, .func (PySem.W.fnOf "path_words" "path_words" (defArgs sPathWords) (defBody sPathWords) (defScope sPathWords) .none kVPathWords dcPathWords pmPathWords anPathWords cdPathWords ctPathWords), slPathWords⟩) (cPathWords : PySem.W.codeIn K cdPathWords "path_words" = true) (kPathWords : PySem.W.keepIn K (.ref aPathWords) = true)
    {odAreLeaves anAreLeaves : Option Addr} {slAreLeaves : Array (Option Value)} {ocAreLeaves kVAreLeaves dcAreLeaves pmAreLeaves ctAreLeaves : Value} {aAreLeaves cAAreLeaves PAreLeaves : Addr} {eAreLeaves : Value} {ddAreLeaves : Option Addr} {vsAreLeaves : Array Value} {scAreLeaves : Array (Option Value)}
    (xAreLeaves : PySem.W.nsIn K mainGlobals "are_leaves" = some (some (.ref aAreLeaves))) (lAreLeaves : K.lookup aAreLeaves = some ⟨ocAreLeaves, odAreLeaves, .func (PySem.W.fnOf "are_leaves" "are_leaves" (defArgs sAreLeaves) (defBody sAreLeaves) (defScope sAreLeaves) .none kVAreLeaves dcAreLeaves pmAreLeaves anAreLeaves (.ref cAAreLeaves) ctAreLeaves), slAreLeaves⟩) (cAreLeaves : PySem.W.codeIn K (.ref cAAreLeaves) "are_leaves" = true) (kAreLeaves : PySem.W.keepIn K (.ref aAreLeaves) = true)
    (t1AreLeaves : K.lookup cAAreLeaves = some ⟨eAreLeaves, ddAreLeaves, .fields vsAreLeaves, scAreLeaves⟩) (t2AreLeaves : vsAreLeaves[11]? = some (.ref PAreLeaves)) (t3AreLeaves : PySem.W.codeHdIn [(cAAreLeaves, ⟨eAreLeaves, ddAreLeaves, .fields vsAreLeaves, scAreLeaves⟩)] cAAreLeaves PAreLeaves = true) (t4AreLeaves : K.lookup PAreLeaves = none)
    {odAreDimensions anAreDimensions : Option Addr} {slAreDimensions : Array (Option Value)} {ocAreDimensions kVAreDimensions dcAreDimensions pmAreDimensions cdAreDimensions ctAreDimensions : Value} {aAreDimensions : Addr}
    (xAreDimensions : PySem.W.nsIn K mainGlobals "are_dimensions" = some (some (.ref aAreDimensions))) (lAreDimensions : K.lookup aAreDimensions = some ⟨ocAreDimensions, odAreDimensions, .func (PySem.W.fnOf "are_dimensions" "are_dimensions" (defArgs sAreDimensions) (defBody sAreDimensions) (defScope sAreDimensions) .none kVAreDimensions dcAreDimensions pmAreDimensions anAreDimensions cdAreDimensions ctAreDimensions), slAreDimensions⟩) (cAreDimensions : PySem.W.codeIn K cdAreDimensions "are_dimensions" = true) (kAreDimensions : PySem.W.keepIn K (.ref aAreDimensions) = true)
    {odBeginning anBeginning : Option Addr} {slBeginning : Array (Option Value)} {ocBeginning kVBeginning dcBeginning pmBeginning cdBeginning ctBeginning : Value} {aBeginning : Addr}
    (xBeginning : PySem.W.nsIn K mainGlobals "beginning" = some (some (.ref aBeginning))) (lBeginning : K.lookup aBeginning = some ⟨ocBeginning, odBeginning, .func (PySem.W.fnOf "beginning" "beginning" (defArgs sBeginning) (defBody sBeginning) (defScope sBeginning) .none kVBeginning dcBeginning pmBeginning anBeginning cdBeginning ctBeginning), slBeginning⟩) (cBeginning : PySem.W.codeIn K cdBeginning "beginning" = true) (kBeginning : PySem.W.keepIn K (.ref aBeginning) = true)
    {odLevelMembers anLevelMembers : Option Addr} {slLevelMembers : Array (Option Value)} {ocLevelMembers kVLevelMembers dcLevelMembers pmLevelMembers cdLevelMembers ctLevelMembers : Value} {aLevelMembers : Addr}
    (xLevelMembers : PySem.W.nsIn K mainGlobals "level_members" = some (some (.ref aLevelMembers))) (lLevelMembers : K.lookup aLevelMembers = some ⟨ocLevelMembers, odLevelMembers, .func (PySem.W.fnOf "level_members" "level_members" (defArgs sLevelMembers) (defBody sLevelMembers) (defScope sLevelMembers) .none kVLevelMembers dcLevelMembers pmLevelMembers anLevelMembers cdLevelMembers ctLevelMembers), slLevelMembers⟩) (cLevelMembers : PySem.W.codeIn K cdLevelMembers "level_members" = true) (kLevelMembers : PySem.W.keepIn K (.ref aLevelMembers) = true)
    {odSpaceInit anSpaceInit : Option Addr} {slSpaceInit : Array (Option Value)} {ocSpaceInit kVSpaceInit dcSpaceInit pmSpaceInit cdSpaceInit ctSpaceInit : Value} {aSpaceInit : Addr}
    (me1SpaceInit : PySem.W.findIn K (.ref aSpace) "__init__" = some (some (.ref aSpaceInit)))
    (me2SpaceInit : PySem.W.isFn K (.ref aSpaceInit) = true)
    (lSpaceInit : K.lookup aSpaceInit = some ⟨ocSpaceInit, odSpaceInit, .func (PySem.W.fnOf "__init__" "Space.__init__" (defArgs sSpaceInit) (defBody sSpaceInit) (defScope sSpaceInit) .none kVSpaceInit dcSpaceInit pmSpaceInit anSpaceInit cdSpaceInit ctSpaceInit), slSpaceInit⟩) (cSpaceInit : PySem.W.codeIn K cdSpaceInit "Space.__init__" = true) (kSpaceInit : PySem.W.keepIn K (.ref aSpaceInit) = true)
    (mk1SpaceInit : PySem.W.makesIn K aSpace = true)
    (mk4SpaceInit : PySem.W.keepIn K (.ref aSpace) = true)
    {odLawIsWord anLawIsWord : Option Addr} {slLawIsWord : Array (Option Value)} {ocLawIsWord kVLawIsWord dcLawIsWord pmLawIsWord cdLawIsWord ctLawIsWord : Value} {aLawIsWord : Addr}
    (xLawIsWord : PySem.W.nsIn K mainGlobals "_law_is_word" = some (some (.ref aLawIsWord))) (lLawIsWord : K.lookup aLawIsWord = some ⟨ocLawIsWord, odLawIsWord, .func (PySem.W.fnOf "_law_is_word" "_law_is_word" (defArgs sLawIsWord) (defBody sLawIsWord) (defScope sLawIsWord) .none kVLawIsWord dcLawIsWord pmLawIsWord anLawIsWord cdLawIsWord ctLawIsWord), slLawIsWord⟩) (cLawIsWord : PySem.W.codeIn K cdLawIsWord "_law_is_word" = true) (kLawIsWord : PySem.W.keepIn K (.ref aLawIsWord) = true)
    {odLawLeafRows anLawLeafRows : Option Addr} {slLawLeafRows : Array (Option Value)} {ocLawLeafRows kVLawLeafRows dcLawLeafRows pmLawLeafRows cdLawLeafRows ctLawLeafRows : Value} {aLawLeafRows : Addr}
    (xLawLeafRows : PySem.W.nsIn K mainGlobals "_law_leaf_rows" = some (some (.ref aLawLeafRows))) (lLawLeafRows : K.lookup aLawLeafRows = some ⟨ocLawLeafRows, odLawLeafRows, .func (PySem.W.fnOf "_law_leaf_rows" "_law_leaf_rows" (defArgs sLawLeafRows) (defBody sLawLeafRows) (defScope sLawLeafRows) .none kVLawLeafRows dcLawLeafRows pmLawLeafRows anLawLeafRows cdLawLeafRows ctLawLeafRows), slLawLeafRows⟩) (cLawLeafRows : PySem.W.codeIn K cdLawLeafRows "_law_leaf_rows" = true) (kLawLeafRows : PySem.W.keepIn K (.ref aLawLeafRows) = true)
    {odLawAreDimensions anLawAreDimensions : Option Addr} {slLawAreDimensions : Array (Option Value)} {ocLawAreDimensions kVLawAreDimensions dcLawAreDimensions pmLawAreDimensions cdLawAreDimensions ctLawAreDimensions : Value} {aLawAreDimensions : Addr}
    (xLawAreDimensions : PySem.W.nsIn K mainGlobals "_law_are_dimensions" = some (some (.ref aLawAreDimensions))) (lLawAreDimensions : K.lookup aLawAreDimensions = some ⟨ocLawAreDimensions, odLawAreDimensions, .func (PySem.W.fnOf "_law_are_dimensions" "_law_are_dimensions" (defArgs sLawAreDimensions) (defBody sLawAreDimensions) (defScope sLawAreDimensions) .none kVLawAreDimensions dcLawAreDimensions pmLawAreDimensions anLawAreDimensions cdLawAreDimensions ctLawAreDimensions), slLawAreDimensions⟩) (cLawAreDimensions : PySem.W.codeIn K cdLawAreDimensions "_law_are_dimensions" = true) (kLawAreDimensions : PySem.W.keepIn K (.ref aLawAreDimensions) = true)
    {odLawIsInteger anLawIsInteger : Option Addr} {slLawIsInteger : Array (Option Value)} {ocLawIsInteger kVLawIsInteger dcLawIsInteger pmLawIsInteger cdLawIsInteger ctLawIsInteger : Value} {aLawIsInteger : Addr}
    (xLawIsInteger : PySem.W.nsIn K mainGlobals "_law_is_integer" = some (some (.ref aLawIsInteger))) (lLawIsInteger : K.lookup aLawIsInteger = some ⟨ocLawIsInteger, odLawIsInteger, .func (PySem.W.fnOf "_law_is_integer" "_law_is_integer" (defArgs sLawIsInteger) (defBody sLawIsInteger) (defScope sLawIsInteger) .none kVLawIsInteger dcLawIsInteger pmLawIsInteger anLawIsInteger cdLawIsInteger ctLawIsInteger), slLawIsInteger⟩) (cLawIsInteger : PySem.W.codeIn K cdLawIsInteger "_law_is_integer" = true) (kLawIsInteger : PySem.W.keepIn K (.ref aLawIsInteger) = true)
    {odLawSame anLawSame : Option Addr} {slLawSame : Array (Option Value)} {ocLawSame kVLawSame dcLawSame pmLawSame cdLawSame ctLawSame : Value} {aLawSame : Addr}
    (xLawSame : PySem.W.nsIn K mainGlobals "_law_same" = some (some (.ref aLawSame))) (lLawSame : K.lookup aLawSame = some ⟨ocLawSame, odLawSame, .func (PySem.W.fnOf "_law_same" "_law_same" (defArgs sLawSame) (defBody sLawSame) (defScope sLawSame) .none kVLawSame dcLawSame pmLawSame anLawSame cdLawSame ctLawSame), slLawSame⟩) (cLawSame : PySem.W.codeIn K cdLawSame "_law_same" = true) (kLawSame : PySem.W.keepIn K (.ref aLawSame) = true)
    {odLawAText anLawAText : Option Addr} {slLawAText : Array (Option Value)} {ocLawAText kVLawAText dcLawAText pmLawAText cdLawAText ctLawAText : Value} {aLawAText : Addr}
    (xLawAText : PySem.W.nsIn K mainGlobals "_law_a_text" = some (some (.ref aLawAText))) (lLawAText : K.lookup aLawAText = some ⟨ocLawAText, odLawAText, .func (PySem.W.fnOf "_law_a_text" "_law_a_text" (defArgs sLawAText) (defBody sLawAText) (defScope sLawAText) .none kVLawAText dcLawAText pmLawAText anLawAText cdLawAText ctLawAText), slLawAText⟩) (cLawAText : PySem.W.codeIn K cdLawAText "_law_a_text" = true) (kLawAText : PySem.W.keepIn K (.ref aLawAText) = true)
    {odLawChangedLeaves anLawChangedLeaves : Option Addr} {slLawChangedLeaves : Array (Option Value)} {ocLawChangedLeaves kVLawChangedLeaves dcLawChangedLeaves pmLawChangedLeaves cdLawChangedLeaves ctLawChangedLeaves : Value} {aLawChangedLeaves : Addr}
    (xLawChangedLeaves : PySem.W.nsIn K mainGlobals "_law_changed_leaves" = some (some (.ref aLawChangedLeaves))) (lLawChangedLeaves : K.lookup aLawChangedLeaves = some ⟨ocLawChangedLeaves, odLawChangedLeaves, .func (PySem.W.fnOf "_law_changed_leaves" "_law_changed_leaves" (defArgs sLawChangedLeaves) (defBody sLawChangedLeaves) (defScope sLawChangedLeaves) .none kVLawChangedLeaves dcLawChangedLeaves pmLawChangedLeaves anLawChangedLeaves cdLawChangedLeaves ctLawChangedLeaves), slLawChangedLeaves⟩) (cLawChangedLeaves : PySem.W.codeIn K cdLawChangedLeaves "_law_changed_leaves" = true) (kLawChangedLeaves : PySem.W.keepIn K (.ref aLawChangedLeaves) = true)
    {odLawChanged anLawChanged : Option Addr} {slLawChanged : Array (Option Value)} {ocLawChanged kVLawChanged dcLawChanged pmLawChanged cdLawChanged ctLawChanged : Value} {aLawChanged : Addr}
    (xLawChanged : PySem.W.nsIn K mainGlobals "_law_changed" = some (some (.ref aLawChanged))) (lLawChanged : K.lookup aLawChanged = some ⟨ocLawChanged, odLawChanged, .func (PySem.W.fnOf "_law_changed" "_law_changed" (defArgs sLawChanged) (defBody sLawChanged) (defScope sLawChanged) .none kVLawChanged dcLawChanged pmLawChanged anLawChanged cdLawChanged ctLawChanged), slLawChanged⟩) (cLawChanged : PySem.W.codeIn K cdLawChanged "_law_changed" = true) (kLawChanged : PySem.W.keepIn K (.ref aLawChanged) = true)
    {odLaw anLaw : Option Addr} {slLaw : Array (Option Value)} {ocLaw kVLaw dcLaw pmLaw cdLaw ctLaw : Value} {aLaw : Addr}
    (xLaw : PySem.W.nsIn K mainGlobals "law" = some (some (.ref aLaw))) (lLaw : K.lookup aLaw = some ⟨ocLaw, odLaw, .func (PySem.W.fnOf "law" "law" (defArgs sLaw) (defBody sLaw) (defScope sLaw) .none kVLaw dcLaw pmLaw anLaw cdLaw ctLaw), slLaw⟩) (cLaw : PySem.W.codeIn K cdLaw "law" = true) (kLaw : PySem.W.keepIn K (.ref aLaw) = true)
    {tg_LETTERS : Nat} (xg_LETTERS : PySem.W.nsIn K mainGlobals "LETTERS" = some (some (.str "abcdefghijklmnopqrstuvwxyz" tg_LETTERS)))
    {ag_RESERVED : Addr} {ng_RESERVED : Nat} {slg_RESERVED : Array (Option Value)} {t0_RESERVED t1_RESERVED t2_RESERVED t3_RESERVED : Nat} (xg_RESERVED : PySem.W.nsIn K mainGlobals "RESERVED" = some (some (.ref ag_RESERVED))) (lg_RESERVED : K.lookup ag_RESERVED = some ⟨.type "tuple", none, .seq #[.str "sum" t0_RESERVED, .str "where" t1_RESERVED, .str "in" t2_RESERVED, .str "and" t3_RESERVED] ng_RESERVED, slg_RESERVED⟩)
    {tg_LONGEST_WORD : Nat} (xg_LONGEST_WORD : PySem.W.nsIn K mainGlobals "LONGEST_WORD" = some (some (.int 8 tg_LONGEST_WORD)))
    {tg_MOST_DEPTH : Nat} (xg_MOST_DEPTH : PySem.W.nsIn K mainGlobals "MOST_DEPTH" = some (some (.int 3 tg_MOST_DEPTH)))
    {tg_MOST_LEAVES : Nat} (xg_MOST_LEAVES : PySem.W.nsIn K mainGlobals "MOST_LEAVES" = some (some (.int 8 tg_MOST_LEAVES)))
    {tg_MOST_CELLS : Nat} (xg_MOST_CELLS : PySem.W.nsIn K mainGlobals "MOST_CELLS" = some (some (.int 48 tg_MOST_CELLS)))
    {tg_MOST_DIMENSIONS : Nat} (xg_MOST_DIMENSIONS : PySem.W.nsIn K mainGlobals "MOST_DIMENSIONS" = some (some (.int 3 tg_MOST_DIMENSIONS)))
    (z_range : PySem.W.nsIn K mainGlobals "range" = some none)
    (z_int : PySem.W.nsIn K mainGlobals "int" = some none)
    (z_len : PySem.W.nsIn K mainGlobals "len" = some none)
    (z_tuple : PySem.W.nsIn K mainGlobals "tuple" = some none)
    (z_sorted : PySem.W.nsIn K mainGlobals "sorted" = some none)
    (z_min : PySem.W.nsIn K mainGlobals "min" = some none)
    (z_all : PySem.W.nsIn K mainGlobals "all" = some none)
    (z_isinstance : PySem.W.nsIn K mainGlobals "isinstance" = some none)
    (z_bool : PySem.W.nsIn K mainGlobals "bool" = some none)
    (z_str : PySem.W.nsIn K mainGlobals "str" = some none)
    (z_list : PySem.W.nsIn K mainGlobals "list" = some none)
    (z_ValueError : PySem.W.nsIn K mainGlobals "ValueError" = some none) :
    LamX.LawAtS l w K (L2N.CX l.prog w) 8 63 "_law_script" mg fa h := by
  have e := hfa.symm.trans (PySem.W.mg_of X G xLaw)
  cases e
  have ULawDigits := fun_mk (st := sLawDigits) lLawDigits cLawDigits kLawDigits
  have BLawDigits := ULawDigits.binds (ps := ["_law_cell_here", "_law_at"]) fun _ _ _ _ _ _ us hl => match us, hl with | [_, _], _ => rfl
  have ULawCell := fun_mk (st := sLawCell) lLawCell cLawCell kLawCell
  have BLawCell := ULawCell.binds (ps := ["_law_script", "_law_k"]) fun _ _ _ _ _ _ us hl => match us, hl with | [_, _], _ => rfl
  have ULawBox := fun_mk (st := sLawBox) lLawBox cLawBox kLawBox
  have BLawBox := ULawBox.binds (ps := ["_law_script", "_law_at"]) fun _ _ _ _ _ _ us hl => match us, hl with | [_, _], _ => rfl
  have ULawDraw := fun_mk (st := sLawDraw) lLawDraw cLawDraw kLawDraw
  have BLawDraw := ULawDraw.binds (ps := ["_law_box_here", "_law_many"]) fun _ _ _ _ _ _ us hl => match us, hl with | [_, _], _ => rfl
  have ULawWord := fun_mk (st := sLawWord) lLawWord cLawWord kLawWord
  have BLawWord := ULawWord.binds (ps := ["_law_box_here", "_law_taken"]) fun _ _ _ _ _ _ us hl => match us, hl with | [_, _], _ => rfl
  have ULawPlainLeaves := fun_mk (st := sLawPlainLeaves) lLawPlainLeaves cLawPlainLeaves kLawPlainLeaves
  have BLawPlainLeaves := ULawPlainLeaves.binds (ps := ["_law_depth", "_law_many"]) fun _ _ _ _ _ _ us hl => match us, hl with | [_, _], _ => rfl
  have ULawLeaves := fun_mk (st := sLawLeaves) lLawLeaves cLawLeaves kLawLeaves
  have BLawLeaves := ULawLeaves.binds (ps := ["_law_box_here", "_law_depth", "_law_many"]) fun _ _ _ _ _ _ us hl => match us, hl with | [_, _, _], _ => rfl
  have ULawWide := fun_mk (st := sLawWide) lLawWide cLawWide kLawWide
  have BLawWide := ULawWide.binds (ps := ["_law_script", "_law_first", "_law_cells_left"]) fun _ _ _ _ _ _ us hl => match us, hl with | [_, _, _], _ => rfl
  have UIsWord := fun_mk (st := sIsWord) lIsWord cIsWord kIsWord
  have BIsWord := UIsWord.binds (ps := ["text"]) fun _ _ _ _ _ _ us hl => match us, hl with | [_], _ => rfl
  have VIsWord : FunG K mg "is_word" sIsWord ["text"] aIsWord _ cAIsWord := ⟨⟨_, _, _, _, _, _, _, _, _, ⟨rfl, rfl⟩, lIsWord, cIsWord⟩, PySem.W.mg_of X G xIsWord, BIsWord, UIsWord.kp⟩
  have TkIsWord := tabK_of (x := "is_word") X (own _ (by simp)) (PySem.W.mg_of X G xIsWord) lIsWord rfl rfl t1IsWord t2IsWord (VL.codeHd_mk t1IsWord t3IsWord) t4IsWord
  have UPathWords := fun_mk (st := sPathWords) lPathWords cPathWords kPathWords
  have BPathWords := UPathWords.binds (ps := ["path"]) fun _ _ _ _ _ _ us hl => match us, hl with | [_], _ => rfl
  have UAreLeaves := fun_mk (st := sAreLeaves) lAreLeaves cAreLeaves kAreLeaves
  have BAreLeaves := UAreLeaves.binds (ps := ["leaves"]) fun _ _ _ _ _ _ us hl => match us, hl with | [_], _ => rfl
  have VAreLeaves : FunG K mg "are_leaves" sAreLeaves ["leaves"] aAreLeaves _ cAAreLeaves := ⟨⟨_, _, _, _, _, _, _, _, _, ⟨rfl, rfl⟩, lAreLeaves, cAreLeaves⟩, PySem.W.mg_of X G xAreLeaves, BAreLeaves, UAreLeaves.kp⟩
  have TkAreLeaves := tabK_of (x := "are_leaves") X (own _ (by simp)) (PySem.W.mg_of X G xAreLeaves) lAreLeaves rfl rfl t1AreLeaves t2AreLeaves (VL.codeHd_mk t1AreLeaves t3AreLeaves) t4AreLeaves
  have UAreDimensions := fun_mk (st := sAreDimensions) lAreDimensions cAreDimensions kAreDimensions
  have BAreDimensions := UAreDimensions.binds (ps := ["dimensions"]) fun _ _ _ _ _ _ us hl => match us, hl with | [_], _ => rfl
  have UBeginning := fun_mk (st := sBeginning) lBeginning cBeginning kBeginning
  have BBeginning := UBeginning.binds (ps := ["path", "level"]) fun _ _ _ _ _ _ us hl => match us, hl with | [_, _], _ => rfl
  have ULevelMembers := fun_mk (st := sLevelMembers) lLevelMembers cLevelMembers kLevelMembers
  have BLevelMembers := ULevelMembers.binds (ps := ["leaves", "level"]) fun _ _ _ _ _ _ us hl => match us, hl with | [_, _], _ => rfl
  have USpaceInit := fun_mk (st := sSpaceInit) lSpaceInit cSpaceInit kSpaceInit
  have BSpaceInit := USpaceInit.binds (ps := ["self", "dimensions"]) fun _ _ _ _ _ _ us hl => match us, hl with | [_, _], _ => rfl
  have ULawIsWord := fun_mk (st := sLawIsWord) lLawIsWord cLawIsWord kLawIsWord
  have BLawIsWord := ULawIsWord.binds (ps := ["_law_text"]) fun _ _ _ _ _ _ us hl => match us, hl with | [_], _ => rfl
  have ULawLeafRows := fun_mk (st := sLawLeafRows) lLawLeafRows cLawLeafRows kLawLeafRows
  have BLawLeafRows := ULawLeafRows.binds (ps := ["_law_leaves_here"]) fun _ _ _ _ _ _ us hl => match us, hl with | [_], _ => rfl
  have ULawAreDimensions := fun_mk (st := sLawAreDimensions) lLawAreDimensions cLawAreDimensions kLawAreDimensions
  have BLawAreDimensions := ULawAreDimensions.binds (ps := ["_law_dimensions"]) fun _ _ _ _ _ _ us hl => match us, hl with | [_], _ => rfl
  have ULawIsInteger := fun_mk (st := sLawIsInteger) lLawIsInteger cLawIsInteger kLawIsInteger
  have BLawIsInteger := ULawIsInteger.binds (ps := ["_law_actual"]) fun _ _ _ _ _ _ us hl => match us, hl with | [_], _ => rfl
  have ULawSame := fun_mk (st := sLawSame) lLawSame cLawSame kLawSame
  have BLawSame := ULawSame.binds (ps := ["_law_actual", "_law_due"]) fun _ _ _ _ _ _ us hl => match us, hl with | [_, _], _ => rfl
  have ULawAText := fun_mk (st := sLawAText) lLawAText cLawAText kLawAText
  have BLawAText := ULawAText.binds (ps := ["_law_box_here"]) fun _ _ _ _ _ _ us hl => match us, hl with | [_], _ => rfl
  have ULawChangedLeaves := fun_mk (st := sLawChangedLeaves) lLawChangedLeaves cLawChangedLeaves kLawChangedLeaves
  have BLawChangedLeaves := ULawChangedLeaves.binds (ps := ["_law_box_here", "_law_leaves_here"]) fun _ _ _ _ _ _ us hl => match us, hl with | [_, _], _ => rfl
  have ULawChanged := fun_mk (st := sLawChanged) lLawChanged cLawChanged kLawChanged
  have BLawChanged := ULawChanged.binds (ps := ["_law_box_here", "_law_dimensions"]) fun _ _ _ _ _ _ us hl => match us, hl with | [_, _], _ => rfl
  have ULaw := fun_mk (st := sLaw) lLaw cLaw kLaw
  have BLaw := ULaw.binds (ps := ["_law_script"]) fun _ _ _ _ _ _ us hl => match us, hl with | [_], _ => rfl
  letI : CM := ⟨fun x => match mg x with | some (.ref a) => a | _ => 0, ["CubeError", "BadDimensions"]⟩
  have at_Space : CM.at_ "Space" = aSpace := by show (match mg "Space" with | some (.ref a) => a | _ => 0) = aSpace; rw [PySem.W.mg_of X G xSpace]
  have at_BadDimensions : CM.at_ "BadDimensions" = aBadDimensions := by show (match mg "BadDimensions" with | some (.ref a) => a | _ => 0) = aBadDimensions; rw [PySem.W.mg_of X G xBadDimensions]
  have at_CubeError : CM.at_ "CubeError" = aCubeError := by show (match mg "CubeError" with | some (.ref a) => a | _ => 0) = aCubeError; rw [PySem.W.mg_of X G xCubeError]
  have k_Space : Cls K aSpace := ⟨kc1Space, kc2Space, kc3Space, kc4Space⟩
  refine ⟨PySem.W.fnOf "law" "law" (defArgs sLaw) (defBody sLaw) (defScope sLaw) .none kVLaw dcLaw pmLaw anLaw cdLaw ctLaw, ([(cAIsWord, PIsWord), (cAAreLeaves, PAreLeaves)] : List (Addr × Addr)), spOf K (([(cAIsWord, PIsWord), (cAAreLeaves, PAreLeaves)] : List (Addr × Addr)).map (·.2)) (spF F_law_k03), ?_, ?_, ?_, fun s v => .of_eq rfl, fun H a ns hl _ hH hS => law_startT (law_true ns hl) hH hS, fun base _ _ TB => ok_all ⟨ULawDigits, PySem.W.mg_of X G xLawDigits, BLawDigits⟩ ⟨ULawCell, PySem.W.mg_of X G xLawCell, BLawCell⟩ ⟨ULawBox, PySem.W.mg_of X G xLawBox, BLawBox⟩ ⟨ULawDraw, PySem.W.mg_of X G xLawDraw, BLawDraw⟩ ⟨ULawWord, PySem.W.mg_of X G xLawWord, BLawWord⟩ ⟨ULawPlainLeaves, PySem.W.mg_of X G xLawPlainLeaves, BLawPlainLeaves⟩ ⟨ULawLeaves, PySem.W.mg_of X G xLawLeaves, BLawLeaves⟩ ⟨ULawWide, PySem.W.mg_of X G xLawWide, BLawWide⟩ VIsWord (VL.tbG (TB (cAIsWord, PIsWord) (by simp))) (by simp) ⟨UPathWords, PySem.W.mg_of X G xPathWords, BPathWords⟩ VAreLeaves (VL.tbG (TB (cAAreLeaves, PAreLeaves) (by simp))) (by simp) ⟨UAreDimensions, PySem.W.mg_of X G xAreDimensions, BAreDimensions⟩ ⟨UBeginning, PySem.W.mg_of X G xBeginning, BBeginning⟩ ⟨ULevelMembers, PySem.W.mg_of X G xLevelMembers, BLevelMembers⟩ (VL.at_funI at_Space USpaceInit k_Space (PySem.W.mg_of X G xSpace) mk1SpaceInit me1SpaceInit me2SpaceInit mk4SpaceInit BSpaceInit) ⟨ULawIsWord, PySem.W.mg_of X G xLawIsWord, BLawIsWord⟩ ⟨ULawLeafRows, PySem.W.mg_of X G xLawLeafRows, BLawLeafRows⟩ ⟨ULawAreDimensions, PySem.W.mg_of X G xLawAreDimensions, BLawAreDimensions⟩ ⟨ULawIsInteger, PySem.W.mg_of X G xLawIsInteger, BLawIsInteger⟩ ⟨ULawSame, PySem.W.mg_of X G xLawSame, BLawSame⟩ ⟨ULawAText, PySem.W.mg_of X G xLawAText, BLawAText⟩ ⟨ULawChangedLeaves, PySem.W.mg_of X G xLawChangedLeaves, BLawChangedLeaves⟩ ⟨ULawChanged, PySem.W.mg_of X G xLawChanged, BLawChanged⟩ ⟨ULaw, PySem.W.mg_of X G xLaw, BLaw⟩ (VL.at_cls at_Space k_Space) (VL.at_no at_Space na_Space_table) (VL.at_no at_Space na_Space_many) (VL.at_no at_Space na_Space_inner) (VL.at_no at_Space na_Space_dimensions) (VL.at_exc at_BadDimensions (PySem.W.mg_of X G xBadDimensions) ex0BadDimensions ex1BadDimensions ex2BadDimensions ex3BadDimensions ex4BadDimensions ex5BadDimensions ex6BadDimensions ex7BadDimensions ex8BadDimensions ex9BadDimensions exaBadDimensions exvBadDimensions excBadDimensions exN0BadDimensions exN1BadDimensions exN2BadDimensions (VL.xs_cons (VL.xs_ok at_CubeError exbCubeError exiCubeError extCubeError exmBadDimensions_CubeError (.inl rfl) (VL.isXb_top _)) (VL.xs_cons (VL.xs_ok at_BadDimensions exbBadDimensions exiBadDimensions extBadDimensions exmBadDimensions_BadDimensions (.inl rfl) (VL.isXb_self _)) VL.xs_nil))) (List.Mem.head _) (VL.at_glb at_CubeError (PySem.W.mg_of X G xCubeError)) (List.Mem.tail _ (List.Mem.head _)) (VL.at_glb at_BadDimensions (PySem.W.mg_of X G xBadDimensions)) (PySem.W.mg_none_of X G z_range) (PySem.W.mg_none_of X G z_int) (PySem.W.mg_none_of X G z_len) (PySem.W.mg_none_of X G z_tuple) (PySem.W.mg_none_of X G z_sorted) (PySem.W.mg_none_of X G z_min) (PySem.W.mg_none_of X G z_all) (PySem.W.mg_none_of X G z_isinstance) (PySem.W.mg_none_of X G z_bool) (PySem.W.mg_none_of X G z_str) (PySem.W.mg_none_of X G z_list) (PySem.W.mg_none_of X G z_ValueError) (VL.glob_str (PySem.W.mg_of X G xg_LETTERS)) (VL.glob_tup [.str "sum", .str "where", .str "in", .str "and"] (PySem.W.mg_of X G xg_RESERVED) lg_RESERVED (by simp) (show 4 ≤ sizeLine by decide) (.cons ⟨_, rfl⟩ (.cons ⟨_, rfl⟩ (.cons ⟨_, rfl⟩ (.cons ⟨_, rfl⟩ .nil))))) (VL.glob_int (PySem.W.mg_of X G xg_LONGEST_WORD)) (VL.glob_int (PySem.W.mg_of X G xg_MOST_DEPTH)) (VL.glob_int (PySem.W.mg_of X G xg_MOST_LEAVES)) (VL.glob_int (PySem.W.mg_of X G xg_MOST_CELLS)) (VL.glob_int (PySem.W.mg_of X G xg_MOST_DIMENSIONS))⟩
  · exact fun p hp => by
      simp only [List.mem_cons, List.not_mem_nil, or_false] at hp
      rcases hp with rfl | rfl
      · exact TkIsWord.tab
      · exact TkAreLeaves.tab
  · exact fun p hp => by
      simp only [List.mem_cons, List.not_mem_nil, or_false] at hp
      rcases hp with rfl | rfl
      · exact TkIsWord.nil
      · exact TkAreLeaves.nil
  · exact fun p hp => by
      simp only [List.mem_cons, List.not_mem_nil, or_false] at hp
      rcases hp with rfl | rfl
      · exact TkIsWord.hd
      · exact TkAreLeaves.hd
end K03
open PySem PySem.W PyProof.Rows
set_option maxHeartbeats 0 in
theorem PySem.Challenge.cw_cubesums_k03_dimensions_refused_holds : PySem.Challenge.rw_cubesums_k03_dimensions_refused.Holds := by
  w_on; o_law; k_head; (case hw => w_witness2)
  k_fill
  refine VL.walk_ofTabs (l := PySem.Challenge.rw_cubesums_k03_dimensions_refused) (n := 63) (k := 8) (x := "_law_script") (CX := fun w => L2N.CX PySem.Challenge.rw_cubesums_k03_dimensions_refused.prog w) ["is_word", "are_leaves"] rfl (by decide) rfl ⟨rfl, by decide, by decide⟩ (by decide +kernel) (fun w h Y => PySem.W.kIn_of Y) ?F ?hCX
  case hCX => exact (letI : VL.CM := ⟨fun _ => 0, []⟩; fun _ _ _ _ _ h => VL.cx_none h)
  case F =>
    intro w mg fa h _ KX G hmg own
    refine' K03.all_mk KX G hmg own ?xSpace ?xBadDimensions ?xCubeError ?kc1Space ?kc2Space ?kc3Space ?kc4Space ?na_Space_table ?na_Space_many ?na_Space_inner ?na_Space_dimensions ?ex0BadDimensions ?ex1BadDimensions ?ex2BadDimensions ?ex3BadDimensions ?ex4BadDimensions ?ex5BadDimensions ?ex6BadDimensions ?ex7BadDimensions ?ex8BadDimensions ?ex9BadDimensions ?exvBadDimensions ?exaBadDimensions ?excBadDimensions ?exN0BadDimensions ?exN1BadDimensions ?exN2BadDimensions ?exmBadDimensions_CubeError ?exmBadDimensions_BadDimensions ?exbCubeError ?exiCubeError ?extCubeError ?exbBadDimensions ?exiBadDimensions ?extBadDimensions ?xLawDigits ?lLawDigits ?cLawDigits ?kLawDigits ?xLawCell ?lLawCell ?cLawCell ?kLawCell ?xLawBox ?lLawBox ?cLawBox ?kLawBox ?xLawDraw ?lLawDraw ?cLawDraw ?kLawDraw ?xLawWord ?lLawWord ?cLawWord ?kLawWord ?xLawPlainLeaves ?lLawPlainLeaves ?cLawPlainLeaves ?kLawPlainLeaves ?xLawLeaves ?lLawLeaves ?cLawLeaves ?kLawLeaves ?xLawWide ?lLawWide ?cLawWide ?kLawWide ?xIsWord ?lIsWord ?cIsWord ?kIsWord ?t1IsWord ?t2IsWord ?t3IsWord ?t4IsWord ?xPathWords ?lPathWords ?cPathWords ?kPathWords ?xAreLeaves ?lAreLeaves ?cAreLeaves ?kAreLeaves ?t1AreLeaves ?t2AreLeaves ?t3AreLeaves ?t4AreLeaves ?xAreDimensions ?lAreDimensions ?cAreDimensions ?kAreDimensions ?xBeginning ?lBeginning ?cBeginning ?kBeginning ?xLevelMembers ?lLevelMembers ?cLevelMembers ?kLevelMembers ?me1SpaceInit ?me2SpaceInit ?lSpaceInit ?cSpaceInit ?kSpaceInit ?mk1SpaceInit ?mk4SpaceInit ?xLawIsWord ?lLawIsWord ?cLawIsWord ?kLawIsWord ?xLawLeafRows ?lLawLeafRows ?cLawLeafRows ?kLawLeafRows ?xLawAreDimensions ?lLawAreDimensions ?cLawAreDimensions ?kLawAreDimensions ?xLawIsInteger ?lLawIsInteger ?cLawIsInteger ?kLawIsInteger ?xLawSame ?lLawSame ?cLawSame ?kLawSame ?xLawAText ?lLawAText ?cLawAText ?kLawAText ?xLawChangedLeaves ?lLawChangedLeaves ?cLawChangedLeaves ?kLawChangedLeaves ?xLawChanged ?lLawChanged ?cLawChanged ?kLawChanged ?xLaw ?lLaw ?cLaw ?kLaw ?xg_LETTERS ?xg_RESERVED ?lg_RESERVED ?xg_LONGEST_WORD ?xg_MOST_DEPTH ?xg_MOST_LEAVES ?xg_MOST_CELLS ?xg_MOST_DIMENSIONS ?z_range ?z_int ?z_len ?z_tuple ?z_sorted ?z_min ?z_all ?z_isinstance ?z_bool ?z_str ?z_list ?z_ValueError
    (case xSpace => k_is); (case xBadDimensions => k_is); (case xCubeError => k_is); (case kc1Space => k_is); (case kc2Space => k_is); (case kc3Space => k_is); (case kc4Space => k_is); (case na_Space_table => k_is); (case na_Space_many => k_is); (case na_Space_inner => k_is); (case na_Space_dimensions => k_is); (case ex0BadDimensions => k_exc); (case ex1BadDimensions => k_is); (case ex2BadDimensions => k_is); (case ex3BadDimensions => k_is); (case ex4BadDimensions => k_is); (case ex5BadDimensions => k_is); (case ex6BadDimensions => k_is); (case ex7BadDimensions => k_is); (case ex8BadDimensions => k_is); (case ex9BadDimensions => k_is); (case exvBadDimensions => k_is); (case exaBadDimensions => k_is); (case excBadDimensions => k_is); (case exN0BadDimensions => k_is); (case exN1BadDimensions => k_is); (case exN2BadDimensions => k_is); (case exmBadDimensions_CubeError => k_is); (case exmBadDimensions_BadDimensions => k_is); (case exbCubeError => k_is); (case exiCubeError => k_is); (case extCubeError => k_is); (case exbBadDimensions => k_is); (case exiBadDimensions => k_is); (case extBadDimensions => k_is); (case xLawDigits => k_is); (case lLawDigits => k_is); (case cLawDigits => k_is); (case kLawDigits => k_is); (case xLawCell => k_is); (case lLawCell => k_is); (case cLawCell => k_is); (case kLawCell => k_is); (case xLawBox => k_is); (case lLawBox => k_is); (case cLawBox => k_is); (case kLawBox => k_is); (case xLawDraw => k_is); (case lLawDraw => k_is); (case cLawDraw => k_is); (case kLawDraw => k_is); (case xLawWord => k_is); (case lLawWord => k_is); (case cLawWord => k_is); (case kLawWord => k_is); (case xLawPlainLeaves => k_is); (case lLawPlainLeaves => k_is); (case cLawPlainLeaves => k_is); (case kLawPlainLeaves => k_is); (case xLawLeaves => k_is); (case lLawLeaves => k_is); (case cLawLeaves => k_is); (case kLawLeaves => k_is); (case xLawWide => k_is); (case lLawWide => k_is); (case cLawWide => k_is); (case kLawWide => k_is); (case xIsWord => k_is); (case lIsWord => k_is); (case cIsWord => k_is); (case kIsWord => k_is); (case t1IsWord => k_is); (case t2IsWord => rfl); (case t3IsWord => rfl); (case t4IsWord => rfl); (case xPathWords => k_is); (case lPathWords => k_is); (case cPathWords => k_is); (case kPathWords => k_is); (case xAreLeaves => k_is); (case lAreLeaves => k_is); (case cAreLeaves => k_is); (case kAreLeaves => k_is); (case t1AreLeaves => k_is); (case t2AreLeaves => rfl); (case t3AreLeaves => rfl); (case t4AreLeaves => rfl); (case xAreDimensions => k_is); (case lAreDimensions => k_is); (case cAreDimensions => k_is); (case kAreDimensions => k_is); (case xBeginning => k_is); (case lBeginning => k_is); (case cBeginning => k_is); (case kBeginning => k_is); (case xLevelMembers => k_is); (case lLevelMembers => k_is); (case cLevelMembers => k_is); (case kLevelMembers => k_is); (case me1SpaceInit => k_is); (case me2SpaceInit => k_is); (case lSpaceInit => k_is); (case cSpaceInit => k_is); (case kSpaceInit => k_is); (case mk1SpaceInit => k_is); (case mk4SpaceInit => k_is); (case xLawIsWord => k_is); (case lLawIsWord => k_is); (case cLawIsWord => k_is); (case kLawIsWord => k_is); (case xLawLeafRows => k_is); (case lLawLeafRows => k_is); (case cLawLeafRows => k_is); (case kLawLeafRows => k_is); (case xLawAreDimensions => k_is); (case lLawAreDimensions => k_is); (case cLawAreDimensions => k_is); (case kLawAreDimensions => k_is); (case xLawIsInteger => k_is); (case lLawIsInteger => k_is); (case cLawIsInteger => k_is); (case kLawIsInteger => k_is); (case xLawSame => k_is); (case lLawSame => k_is); (case cLawSame => k_is); (case kLawSame => k_is); (case xLawAText => k_is); (case lLawAText => k_is); (case cLawAText => k_is); (case kLawAText => k_is); (case xLawChangedLeaves => k_is); (case lLawChangedLeaves => k_is); (case cLawChangedLeaves => k_is); (case kLawChangedLeaves => k_is); (case xLawChanged => k_is); (case lLawChanged => k_is); (case cLawChanged => k_is); (case kLawChanged => k_is); (case xLaw => k_is); (case lLaw => k_is); (case cLaw => k_is); (case kLaw => k_is); (case xg_LETTERS => k_is); (case xg_RESERVED => k_is); (case lg_RESERVED => k_is); (case xg_LONGEST_WORD => k_is); (case xg_MOST_DEPTH => k_is); (case xg_MOST_LEAVES => k_is); (case xg_MOST_CELLS => k_is); (case xg_MOST_DIMENSIONS => k_is); (case z_range => k_is); (case z_int => k_is); (case z_len => k_is); (case z_tuple => k_is); (case z_sorted => k_is); (case z_min => k_is); (case z_all => k_is); (case z_isinstance => k_is); (case z_bool => k_is); (case z_str => k_is); (case z_list => k_is); (case z_ValueError => k_is)
