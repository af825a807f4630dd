import PyProof.Rows.All
import Wide.All
import OpenK.AllK
import Wide.FinOn
import HandS.ForMost
import HandS.ForExc
import HandS.CallSlots
import HandS.AnyAll
import HandS.TupAny
import HandS.Lambda
import HandS.Wide
import HandS.Deep
import HandS.Text
import HandS.ExcIs
import HandS.ExcCtx
import HandS.Rev
import HandS.RevRange
import HandS.IsInst
import HandS.Flt
import HandS.ExcSuper
import HandS.ExcInit
import HandS.Strs
import HandS.Codes
import HandS.GenList
import HandS.EndOwn
import KE.KNestM
import HandS.ReCall
import HandS.Style
import HandS.RevTup
import HandS.TryOnly
import HandS.NestedK
import KE.KExcSuper
import HandS.ExcField
import KE.KExcIs
import HandS.HotCalls
import KE.KExcLine
import HandS.Replace
import PyProof.StrReplace2
import PySem.Challenge.RW_cubesums_k09_expressions_read
set_option Elab.async false
set_option linter.all false
set_option maxRecDepth 100000
set_option maxHeartbeats 4000000
namespace VL
open PySem PySem.Spec PyProof.Rows L2
def Nd (K : PySem.W.Frag) (H : Hp) (a : Addr) : Prop := (∃ o u, H a = some (.frz o u) ∧ o.dict = none) ∨ ∃ o, K.lookup a = some o ∧ o.dict = none
def SqN (K : PySem.W.Frag) (H : Hp) (a : Addr) (vs : List V) : Prop := SqT K H a vs ∧ Nd K H a
def NewT (H : Hp) (vs : List V) (Q : VK) : Prop := ∀ p o, H p = none → o.dict = none → Q (.ref p) (upd H p (.frz o (.tup vs)))
theorem newT_frz {H : Hp} {p : Addr} {o : Obj} {vs : List V} {K : PySem.W.Frag} (h : o.dict = none) : SqN K (upd H p (.frz o (.tup vs))) p vs := ⟨.inl (.inr ⟨o, upd_same⟩), .inl ⟨o, _, upd_same, h⟩⟩
section
variable {X : Cx} {pos : Pos} {es : List Expr} {t : TA}
def tTupN (t : TA) : TE := fun σ H Q => t σ H fun xs H1 => xs.length ≤ sizeLine ∧ NewT H1 xs Q
theorem pe_tupN {x1} (h : PA X es t) : PE X (.Tuple es x1 pos) (tTupN t) := by
  refine ⟨fun pins s σ H Q I hq => ?_⟩
  refine wpAny_Tuple_spliced (thn (h.run pos pins s σ H _ I hq) fun us s1 ⟨xs, H1, I1, r, z, q⟩ => ⟨by rw [← r.length]; exact z, ?_⟩)
  have hf : H1 s1.heap.objs.size = none := I1.hok.fresh (Nat.le_refl _)
  refine ⟨.ref s1.heap.objs.size, upd H1 s1.heap.objs.size (.frz _ (.tup xs)), I1.laid (t' := s1.toks) (fun b u e => Heap.get?_push_of_some _ e) (Nat.le_refl _) ⟨Heap.get?_push_size _ rfl, ?_⟩, rfl, q _ _ hf rfl⟩
  exact ⟨z, us, r, ⟨_, Heap.get?_push_size _ rfl, rfl, _, rfl⟩⟩
def rSlN (K : PySem.W.Frag) : V → Option Int → Option Int → Hp → VK → Prop := fun x lo hi H Q => ∃ a xs, x = .ref a ∧ SqT K H a xs ∧
  (HT.sIx xs.length 0 lo = 0 ∧ HT.sIx xs.length xs.length hi = xs.length → Q (.ref a) H) ∧ (¬ (HT.sIx xs.length 0 lo = 0 ∧ HT.sIx xs.length xs.length hi = xs.length) → NewT H (cutV xs lo hi) Q)
theorem sl_tupN : SlR X (rSlN X.K) := by
  intro pins s σ H x v vl vu lo hi sl Q I rx hs pl pu h
  obtain ⟨a, xs, rfl, hx, q1, q2⟩ := h
  cases rx
  obtain ⟨its, r, ht, hz⟩ := I.tuple hx
  have hlen : its.toArray.size = xs.length := by rw [List.size_toArray]; exact r.length.symm
  refine ⟨"tuple", _, PyProof.Rows.slot_tuple_getitem.lookup, ht.typeIs, ?_⟩
  by_cases hw : HT.sIx xs.length 0 lo = 0 ∧ HT.sIx xs.length xs.length hi = xs.length
  · exact getItem_tuple_whole ht hs pl pu (by rw [hlen]; exact hw) ⟨.ref a, H, I, rfl, q1 hw⟩
  · refine HT.getItem_tuple_cut ht hs pl pu (by rw [hlen]; exact hw) ?_ (by rw [hlen]; exact hz)
    rw [hlen]
    refine ⟨.ref s.heap.objs.size, _, I.laid (t' := s.toks) (o := .frz _ (.tup (cutV xs lo hi))) (fun b ob q => Heap.get?_push_of_some _ q) (Nat.le_refl _) ⟨Heap.get?_push_size _ rfl, ?_⟩, rfl, q2 hw _ _ (I.hok.fresh (Nat.le_refl _)) rfl⟩
    exact ⟨Nat.le_trans (cutV_length xs lo hi) hz, _, (r.drop (HT.sIx xs.length 0 lo)).take (HT.sIx xs.length xs.length hi - HT.sIx xs.length 0 lo), IsTup.new _ _⟩
def rCatN (K : PySem.W.Frag) : R2 := fun x y H Q => ∃ a b xs ys, x = .ref a ∧ y = .ref b ∧ SqT K H a xs ∧ SqT K H b ys ∧ xs.length + ys.length ≤ sizeLine ∧
  (xs = [] → Q (.ref b) H) ∧ (xs ≠ [] → ys = [] → Q (.ref a) H) ∧ (xs ≠ [] → ys ≠ [] → NewT H (xs ++ ys) Q)
theorem op_catN : OpR X (binaryOp .Add) (rCatN X.K) := by
  intro pins s σ H x y v u Q I rx ry h
  obtain ⟨a, b, xs, ys, rfl, rfl, ha, hb, hz, q0, q1, q2⟩ := h
  cases rx
  cases ry
  obtain ⟨its, r1, p1, _⟩ := I.tuple ha
  obtain ⟨its2, r2, p2, _⟩ := I.tuple hb
  by_cases hx : xs = []
  · subst hx
    cases r1
    exact cat_tup0 p1 p2 ⟨.ref b, H, I, rfl, q0 rfl⟩
  · refine HT.cat_tup p1 p2 (fun z => hx (r1.nil_iff.mp z)) (fun z => ⟨.ref a, H, I, rfl, q1 hx (r2.nil_iff.mp z)⟩) (fun z => ?_) (by rw [← r1.length, ← r2.length]; exact hz)
    refine ⟨.ref s.heap.objs.size, _, I.laid (t' := s.toks) (o := .frz _ (.tup (xs ++ ys))) (fun b ob q => Heap.get?_push_of_some _ q) (Nat.le_refl _) ⟨Heap.get?_push_size _ rfl, ?_⟩, rfl, q2 hx (fun w => z (r2.nil_iff.mpr w)) _ _ (I.hok.fresh (Nat.le_refl _)) rfl⟩
    exact ⟨by rw [List.length_append]; exact hz, _, r1.append r2, IsTup.new _ _⟩
theorem call_tupleN : CallR X (.type "tuple") (fun xs H Q => ∃ p ys, xs = [.ref p] ∧ ((SqL X.K H p ys ∧ NewT H ys Q) ∨ (SqT X.K H p ys ∧ Q (.ref p) H))) := by
  intro pins s σ H xs us Q I r h
  obtain ⟨p, ys, rfl, h⟩ := h
  obtain ⟨u, rfl, rx⟩ := vals1 r
  cases rx
  rcases h with ⟨hq, q⟩ | ⟨hq, q⟩
  · obtain ⟨its, r', pl, hz⟩ := I.list hq
    have hlen := r'.length
    have hn := line63
    refine call_tuple_list pl.isList (fun h' kp => ?_) (by simp only [List.size_toArray] <;> omega)
    have I1 : Inv X pins σ H { s with heap := h' } := I.kept (t' := s.toks) kp
    have I2 : Inv X pins σ (upd H h'.objs.size (.frz { cls := .type "tuple", data := .seq its.toArray } (.tup ys))) { s with heap := h'.push { cls := .type "tuple", data := .seq its.toArray } } :=
      I1.laid (t' := s.toks) (fun b o e => Heap.get?_push_of_some _ e) (Nat.le_refl _) ⟨Heap.get?_push_size _ rfl, (show ObjOk X.prog X.w _ _ _ (.tup ys) from ⟨hz, its, r', IsTup.new _ _⟩)⟩
    exact ⟨.ref h'.objs.size, _, I2, rfl, q _ _ (I1.hok.fresh (Nat.le_refl _)) rfl⟩
  · obtain ⟨its, r', pl, hz⟩ := I.tuple hq
    exact call_tuple_same pl ⟨.ref p, H, I, rfl, q⟩
end
end VL
set_option Elab.async false
set_option linter.all false
set_option maxRecDepth 100000
set_option maxHeartbeats 4000000
namespace VL
open PySem PySem.Spec PyProof.Rows L2
class CM where
  at_ : Str → Addr
  xs : List Str
  lq : List (Addr × Str)
variable [CM]
inductive D where
  | non
  | bl (b : Bool)
  | int (i : Int)
  | str (x : Str)
  | tup (ds : List D)
  | lst (ds : List D)
  | obj (C : Str) (fs : List (Str × D))
  | scr (ds : List D)
mutual
inductive Rp (K : PySem.W.Frag) (H : Hp) : D → V → Prop
  | non : Rp K H .non .non
  | bl (b : Bool) : Rp K H (.bl b) (.bl b)
  | int (i : Int) : Rp K H (.int i) (.int i)
  | str (x : Str) : Rp K H (.str x) (.str x)
  | tup {a : Addr} {vs : List V} {ds : List D} : SqN K H a vs → RpL K H ds vs → Rp K H (.tup ds) (.ref a)
  | lst {a : Addr} {vs : List V} {ds : List D} : H a = some (.lst vs) → RpL K H ds vs → Rp K H (.lst ds) (.ref a)
  | obj {a dx : Addr} {C : Str} {fs : List (Str × D)} {gs : List (Str × V)} : H a = some (.ins (CM.at_ C) dx gs) → RpF K H fs gs → Rp K H (.obj C fs) (.ref a)
  | scr {a : Addr} {vs : List V} {ds : List D} : SqL K H a vs → RpL K H ds vs → Rp K H (.scr ds) (.ref a)
inductive RpL (K : PySem.W.Frag) (H : Hp) : List D → List V → Prop
  | nil : RpL K H [] []
  | cons {d : D} {v : V} {ds : List D} {vs : List V} : Rp K H d v → RpL K H ds vs → RpL K H (d :: ds) (v :: vs)
inductive RpF (K : PySem.W.Frag) (H : Hp) : List (Str × D) → List (Str × V) → Prop
  | nil : RpF K H [] []
  | cons {n : Str} {d : D} {v : V} {fs : List (Str × D)} {gs : List (Str × V)} : Rp K H d v → RpF K H fs gs → RpF K H ((n, d) :: fs) ((n, v) :: gs)
end
theorem same_seqT {K : PySem.W.Frag} {H H' : Hp} {a : Addr} {xs : List V} (e : Same H H') (h : SqT K H a xs) : SqT K H' a xs := by
  rcases h with (h | ⟨o, h⟩) | h
  · exact .inl (.inl (e _ _ h))
  · exact .inl (.inr ⟨o, e _ _ h⟩)
  · exact .inr h
section
variable {K : PySem.W.Frag} {H H' Hb Hb' : Hp}
theorem SqN.mn {K : PySem.W.Frag} {H H' : Hp} {a : Addr} {xs : List V} (h : SqN K H a xs) (e : Same H H') : SqN K H' a xs := ⟨same_seqT e h.1, h.2.elim (fun ⟨o, u, h1, h2⟩ => .inl ⟨o, u, e _ _ h1, h2⟩) .inr⟩
mutual
theorem Rp.mono (e : Same H H') : ∀ (d : D) (v : V), Rp K H d v → Rp K H' d v
  | .non, _, h => by cases h; exact .non
  | .bl b, _, h => by cases h; exact .bl b
  | .int i, _, h => by cases h; exact .int i
  | .str x, _, h => by cases h; exact .str x
  | .tup ds, _, h => by cases h with | tup s r => exact .tup (s.mn e) (RpL.mono e ds _ r)
  | .lst ds, _, h => by cases h with | lst s r => exact .lst (e _ _ s) (RpL.mono e ds _ r)
  | .scr ds, _, h => by cases h with | scr s r => exact .scr (e.seq s) (RpL.mono e ds _ r)
  | .obj C fs, _, h => by cases h with | obj s r => exact .obj (e _ _ s) (RpF.mono e fs _ r)
theorem RpL.mono (e : Same H H') : ∀ (ds : List D) (vs : List V), RpL K H ds vs → RpL K H' ds vs
  | [], _, h => by cases h; exact .nil
  | d :: ds, _, h => by cases h with | cons a r => exact .cons (Rp.mono e d _ a) (RpL.mono e ds _ r)
theorem RpF.mono (e : Same H H') : ∀ (fs : List (Str × D)) (gs : List (Str × V)), RpF K H fs gs → RpF K H' fs gs
  | [], _, h => by cases h; exact .nil
  | (n, d) :: fs, _, h => by cases h with | cons a r => exact .cons (Rp.mono e d _ a) (RpF.mono e fs _ r)
end
theorem Rp.mn {d : D} {v : V} (h : Rp K H d v) (e : Same H H') : Rp K H' d v := Rp.mono e d v h
theorem RpL.mn {d : List D} {v : List V} (h : RpL K H d v) (e : Same H H') : RpL K H' d v := RpL.mono e d v h
theorem RpF.mn {d : List (Str × D)} {v : List (Str × V)} (h : RpF K H d v) (e : Same H H') : RpF K H' d v := RpF.mono e d v h
theorem RpL.length : ∀ {ds : List D} {vs : List V}, RpL K H ds vs → vs.length = ds.length
  | [], _, h => by cases h; rfl
  | d :: ds, _, h => by cases h with | cons a r => simp [RpL.length r]
theorem RpL.get : ∀ {ds : List D} {vs : List V} {i : Nat} {d : D}, RpL K H ds vs → ds[i]? = some d → ∃ v, vs[i]? = some v ∧ Rp K H d v
  | [], _, _, _, _, e => by simp at e
  | d :: ds, _, 0, _, h, e => by cases h with | cons a r => simp at e; subst e; exact ⟨_, rfl, a⟩
  | d :: ds, _, i + 1, _, h, e => by
    cases h with
    | cons a r =>
      obtain ⟨v, h1, h2⟩ := RpL.get (i := i) r (by simpa using e)
      exact ⟨v, by simpa using h1, h2⟩
theorem RpL.app : ∀ {ds es : List D} {vs ws : List V}, RpL K H ds vs → RpL K H es ws → RpL K H (ds ++ es) (vs ++ ws)
  | [], _, _, _, h, g => by cases h; exact g
  | d :: ds, _, _, _, h, g => by cases h with | cons a r => exact .cons a (RpL.app r g)
theorem RpL.one {d : D} {v : V} (h : Rp K H d v) : RpL K H [d] [v] := .cons h .nil
theorem RpL.take : ∀ {ds : List D} {vs : List V} (n : Nat), RpL K H ds vs → RpL K H (ds.take n) (vs.take n)
  | _, _, 0, _ => by simp; exact .nil
  | [], _, n + 1, h => by cases h; exact .nil
  | d :: ds, _, n + 1, h => by cases h with | cons a r => exact .cons a (RpL.take n r)
theorem RpL.drop : ∀ {ds : List D} {vs : List V} (n : Nat), RpL K H ds vs → RpL K H (ds.drop n) (vs.drop n)
  | _, _, 0, h => h
  | [], _, n + 1, h => by cases h; exact .nil
  | d :: ds, _, n + 1, h => by cases h with | cons a r => exact RpL.drop n r
theorem RpL.set : ∀ {ds : List D} {vs : List V} {d : D} {v : V} (n : Nat), Rp K H d v → RpL K H ds vs → RpL K H (ds.set n d) (vs.set n v)
  | [], _, _, _, _, _, h => by cases h; exact .nil
  | x :: ds, _, _, _, 0, g, h => by cases h with | cons a r => exact .cons g r
  | x :: ds, _, _, _, n + 1, g, h => by cases h with | cons a r => exact .cons a (RpL.set n g r)
theorem RpF.look : ∀ {fs : List (Str × D)} {gs : List (Str × V)} {n : Str} {d : D}, RpF K H fs gs → fs.lookup n = some d → ∃ v, gs.lookup n = some v ∧ Rp K H d v
  | [], _, _, _, _, e => by simp at e
  | (m, x) :: fs, _, n, d, h, e => by
    cases h with
    | cons a r =>
      simp only [List.lookup_cons] at e ⊢
      cases hx : n == m with
      | true => rw [hx] at e; cases e; exact ⟨_, rfl, a⟩
      | false => rw [hx] at e; exact RpF.look r e
theorem RpF.none : ∀ {fs : List (Str × D)} {gs : List (Str × V)} {n : Str}, RpF K H fs gs → fs.lookup n = none → gs.lookup n = none
  | [], _, _, h, _ => by cases h; rfl
  | (m, x) :: fs, _, n, h, e => by
    cases h with
    | cons a r =>
      simp only [List.lookup_cons] at e ⊢
      cases hx : n == m with
      | true => rw [hx] at e; cases e
      | false => rw [hx] at e; exact RpF.none r e
end
inductive RR (K : PySem.W.Frag) (Hb H : Hp) : D → V → Prop
  | non : RR K Hb H .non .non
  | bl (b : Bool) : RR K Hb H (.bl b) (.bl b)
  | int (i : Int) : RR K Hb H (.int i) (.int i)
  | str (x : Str) : RR K Hb H (.str x) (.str x)
  | tup {a : Addr} {vs : List V} {ds : List D} : SqN K Hb a vs → RpL K Hb ds vs → RR K Hb H (.tup ds) (.ref a)
  | lst {a : Addr} {vs : List V} {ds : List D} : H a = some (.lst vs) → RpL K Hb ds vs → RR K Hb H (.lst ds) (.ref a)
  | scr {a : Addr} {vs : List V} {ds : List D} : SqL K H a vs → RpL K Hb ds vs → RR K Hb H (.scr ds) (.ref a)
  | obj {a dx : Addr} {C : Str} {fs : List (Str × D)} {gs : List (Str × V)} : H a = some (.ins (CM.at_ C) dx gs) → RpF K Hb fs gs → RR K Hb H (.obj C fs) (.ref a)
theorem Rp.rr {K : PySem.W.Frag} {Hb H : Hp} {d : D} {v : V} (h : Rp K Hb d v) (e : Same Hb H) : RR K Hb H d v := by
  cases h with
  | non => exact .non
  | bl b => exact .bl b
  | int i => exact .int i
  | str x => exact .str x
  | tup s r => exact .tup s r
  | lst s r => exact .lst (e _ _ s) r
  | scr s r => exact .scr (e.seq s) r
  | obj s r => exact .obj (e _ _ s) r
theorem RR.up {K : PySem.W.Frag} {Hb H : Hp} {d : D} {v : V} (h : RR K Hb H d v) (e : Same Hb H) : Rp K H d v := by
  cases h with
  | non => exact .non
  | bl b => exact .bl b
  | int i => exact .int i
  | str x => exact .str x
  | tup s r => exact .tup (s.mn e) (r.mn e)
  | lst s r => exact .lst s (r.mn e)
  | scr s r => exact .scr s (r.mn e)
  | obj s r => exact .obj s (r.mn e)
inductive OC where
  | lst (ds : List D)
  | ins (C : Str) (fs : List (Str × D))
@[simp] def OC.fz : OC → D
  | .lst ds => .lst ds
  | .ins C fs => .obj C fs
def Cont (K : PySem.W.Frag) (Hb H : Hp) (a : Addr) : OC → Prop
  | .lst ds => ∃ vs, H a = some (.lst vs) ∧ RpL K Hb ds vs
  | .ins C fs => ∃ dx gs, H a = some (.ins (CM.at_ C) dx gs) ∧ RpF K Hb fs gs
theorem Cont.there {K : PySem.W.Frag} {Hb H : Hp} {a : Addr} {oc : OC} (h : Cont K Hb H a oc) : ∃ o, H a = some o := by
  cases oc with
  | lst ds => obtain ⟨vs, e, _⟩ := h; exact ⟨_, e⟩
  | ins C fs => obtain ⟨dx, gs, e, _⟩ := h; exact ⟨_, e⟩
theorem Cont.notab {K : PySem.W.Frag} {Hb H : Hp} {a : Addr} {oc : OC} (h : Cont K Hb H a oc) {P : Addr} (t : GxR.TabG H P) : P ≠ a := by
  rintro rfl
  obtain ⟨ps, e, _⟩ := t
  cases oc with
  | lst ds => obtain ⟨vs, e', _⟩ := h; rw [e] at e'; cases e'
  | ins C fs => obtain ⟨dx, gs, e', _⟩ := h; rw [e] at e'; cases e'
theorem Cont.rr {K : PySem.W.Frag} {Hb H : Hp} {a : Addr} {oc : OC} (h : Cont K Hb H a oc) : RR K Hb H oc.fz (.ref a) := by
  cases oc with
  | lst ds => obtain ⟨vs, e, r⟩ := h; exact .lst e r
  | ins C fs => obtain ⟨dx, gs, e, r⟩ := h; exact .obj e r
theorem Cont.mn {K : PySem.W.Frag} {Hb Hb' H H' : Hp} {a : Addr} {oc : OC} (h : Cont K Hb H a oc) (s : Same Hb Hb') (e : ∀ o, H a = some o → H' a = some o) : Cont K Hb' H' a oc := by
  cases oc with
  | lst ds => obtain ⟨vs, q, r⟩ := h; exact ⟨vs, e _ q, r.mn s⟩
  | ins C fs => obtain ⟨dx, gs, q, r⟩ := h; exact ⟨dx, gs, e _ q, r.mn s⟩
inductive M where
  | val (d : D)
  | own (c : OC)
@[simp] def M.view : M → D
  | .val d => d
  | .own c => c.fz
abbrev Env := List (Option M)
inductive W where
  | val (d : D)
  | cel (i : Nat)
  | tmp (c : OC)
def view (w : W) (env : Env) : Option D := match w with
  | .val d => some d
  | .cel i => match env[i]? with
    | some (some m) => some m.view
    | _ => none
  | .tmp c => some c.fz
def TabQ (Hb H : Hp) (P : Addr) : Prop := ∃ ps : Array Value, H P = some (.tbl ps) ∧ TriplesOk ps.toList ∧ ∀ q, CM.lq.lookup P = some q → ∀ (pos : Pos) (cv : Value), codeAmong pos ps.toList = some cv → ∃ c, cv = .ref c ∧ Hb c = some (LamX.CodeO c q)
theorem TabQ.g {Hb H : Hp} {P : Addr} (t : TabQ Hb H P) : GxR.TabG H P := by
  obtain ⟨ps, h1, h2, _⟩ := t
  exact ⟨ps, h1, h2⟩
theorem TabQ.mn {Hb Hb' H H' : Hp} {P : Addr} (t : TabQ Hb H P) (s : Same Hb Hb') (e : Same H H') : TabQ Hb' H' P := by
  obtain ⟨ps, h1, h2, h3⟩ := t
  exact ⟨ps, e _ _ h1, h2, fun q hq pos cv hc => by obtain ⟨c, e1, e2⟩ := h3 q hq pos cv hc; exact ⟨c, e1, s _ _ e2⟩⟩
theorem TabQ.of {Hb H : Hp} {P : Addr} (t : GxR.TabG H P) (n : CM.lq.lookup P = none) : TabQ Hb H P := by
  obtain ⟨ps, h1, h2⟩ := t
  exact ⟨ps, h1, h2, fun q hq => by rw [n] at hq; cases hq⟩
structure VC where
  T : List Addr
  fx : List Nat
  xc : List (Nat × Addr × List (Addr × List (Str × V)))
structure Fm where
  Fr : Hp
  B : Hp
  fv : Nat → V
def XvOk (c : VC) (f : Fm) (Hb : Hp) : Prop := ∀ p ∈ c.xc, f.fv p.1 = .ref p.2.1 ∧ ∀ q ∈ p.2.2, Hb q.1 = some (.xd q.2)
theorem XvOk.mn {c : VC} {f : Fm} {Hb Hb' : Hp} (h : XvOk c f Hb) (s : Same Hb Hb') : XvOk c f Hb' := fun p hp => ⟨(h p hp).1, fun q hq => s _ _ ((h p hp).2 q hq)⟩
structure Rl (K : PySem.W.Frag) (c : VC) (f : Fm) (Hb : Hp) (env : Env) (σ : L2.St) (H : Hp) : Prop where
  len : σ.length = env.length
  val : ∀ {i : Nat} {d : D}, env[i]? = some (some (.val d)) → ∃ v, σ[i]? = some (some v) ∧ Rp K Hb d v
  own : ∀ {i : Nat} {oc : OC}, env[i]? = some (some (.own oc)) → ∃ a, σ[i]? = some (some (.ref a)) ∧ Hb a = none ∧ f.Fr a = none ∧ Cont K Hb H a oc
  inj : ∀ {i j : Nat} {oc oc' : OC} {a : Addr}, env[i]? = some (some (.own oc)) → env[j]? = some (some (.own oc')) → σ[i]? = some (some (.ref a)) → σ[j]? = some (some (.ref a)) → i = j
  sub : Same Hb H
  frm : Same f.Fr H
  frb : ∀ b o, f.Fr b = some o → Hb b = f.B b
  tab : ∀ P ∈ c.T, TabQ Hb H P ∧ Hb P = none ∧ f.Fr P = none
  fix : ∀ i ∈ c.fx, σ[i]? = some (some (f.fv i))
  xv : XvOk c f Hb
def RW (K : PySem.W.Frag) (f : Fm) (Hb : Hp) (env : Env) (σ : L2.St) (H : Hp) (w : W) (v : V) : Prop := match w with
  | .val d => Rp K Hb d v
  | .cel i => σ[i]? = some (some v)
  | .tmp oc => ∃ a, v = .ref a ∧ Hb a = none ∧ f.Fr a = none ∧ Cont K Hb H a oc ∧ ∀ (i : Nat) (oc' : OC), env[i]? = some (some (.own oc')) → σ[i]? ≠ some (some (.ref a))
def RS (K : PySem.W.Frag) (Hb : Hp) (σ : L2.St) (w : W) (v : V) : Prop := match w with
  | .val d => Rp K Hb d v
  | .cel i => σ[i]? = some (some v)
  | .tmp _ => False
def fzv : W → W
  | .tmp oc => .val oc.fz
  | w => w
section
variable {K : PySem.W.Frag} {c : VC} {f : Fm} {Hb Hb' H H' : Hp} {env : Env} {σ : L2.St} {w : W} {v : V} {d : D}
theorem RS.mn (h : RS K Hb σ w v) (e : Same Hb Hb') : RS K Hb' σ w v := by
  cases w with
  | val d => exact Rp.mn h e
  | cel i => exact h
  | tmp _ => exact h
theorem Rl.cel (R : Rl K c f Hb env σ H) {i : Nat} {m : M} (e : env[i]? = some (some m)) : ∃ v, σ[i]? = some (some v) ∧ RR K Hb H m.view v := by
  cases m with
  | val d =>
    obtain ⟨v, h1, h2⟩ := R.val e
    exact ⟨v, h1, h2.rr R.sub⟩
  | own oc =>
    obtain ⟨a, h1, _, _, h2⟩ := R.own e
    exact ⟨_, h1, h2.rr⟩
theorem Rl.rd (R : Rl K c f Hb env σ H) (h : RW K f Hb env σ H w v) (e : view w env = some d) : RR K Hb H d v := by
  cases w with
  | val d' =>
    have e' : d' = d := Option.some.inj e
    subst e'
    exact Rp.rr h R.sub
  | cel i =>
    have h : σ[i]? = some (some v) := h
    unfold view at e
    split at e
    · rename_i d' he; cases he
    · rename_i j he
      cases he
      split at e
      · rename_i m hm
        obtain ⟨v', h1, h2⟩ := R.cel hm
        rw [h] at h1; cases h1
        cases e
        exact h2
      · cases e
    · rename_i j he; cases he
  | tmp oc =>
    have e' : oc.fz = d := Option.some.inj e
    subst e'
    obtain ⟨a, rfl, _, _, h2, _⟩ := h
    exact h2.rr
theorem RS.rw (h : RS K Hb σ w v) : RW K f Hb env σ H w v := by
  cases w with
  | val d => exact h
  | cel i => exact h
  | tmp _ => exact h.elim
structure ExtH (Hb H Hb' H' : Hp) : Prop where
  b : Same Hb Hb'
  h : Same H H'
  n : ∀ a o, H a = some o → Hb' a = Hb a
  s : Same Hb' H'
theorem ExtH.refl (s : Same Hb H) : ExtH Hb H Hb H := ⟨Same.refl _, Same.refl _, fun _ _ _ => rfl, s⟩
theorem TabG.mn {P : Addr} (t : GxR.TabG H P) (e : Same H H') : GxR.TabG H' P := by
  obtain ⟨ps, h1, h2⟩ := t
  exact ⟨ps, e _ _ h1, h2⟩
theorem Rl.ext (R : Rl K c f Hb env σ H) (x : ExtH Hb H Hb' H') : Rl K c f Hb' env σ H' where
  len := R.len
  val := fun e => by
    obtain ⟨v, h1, h2⟩ := R.val e
    exact ⟨v, h1, h2.mn x.b⟩
  own := fun e => by
    obtain ⟨a, h1, h2, h3, h4⟩ := R.own e
    obtain ⟨o, ho⟩ := h4.there
    exact ⟨a, h1, by rw [x.n a o ho]; exact h2, h3, h4.mn x.b fun o q => x.h _ _ q⟩
  inj := R.inj
  sub := x.s
  frm := R.frm.trans x.h
  frb := fun b o e => by rw [x.n b o (R.frm b o e)]; exact R.frb b o e
  tab := fun P hP => by
    obtain ⟨h1, h2, h3⟩ := R.tab P hP
    obtain ⟨ps, e, _⟩ := id h1
    exact ⟨h1.mn x.b x.h, by rw [x.n P _ e]; exact h2, h3⟩
  fix := R.fix
  xv := R.xv.mn x.b
theorem ExtH.new {p : Addr} {o : HO} (s : Same Hb H) (n : H p = none) : ExtH Hb H (upd Hb p o) (upd H p o) := by
  have nb : Hb p = none := s.free n
  refine ⟨fun b u e => ?_, fun b u e => ?_, fun a u e => ?_, fun b u e => ?_⟩
  · rw [upd_ne (ne_of_none e nb)]; exact e
  · rw [upd_ne (ne_of_none e n)]; exact e
  · rw [upd_ne (ne_of_none e n)]
  · by_cases hb : b = p
    · subst hb; rw [upd_same] at e ⊢; exact e
    · rw [upd_ne hb] at e ⊢; exact s _ _ e
theorem ExtH.newT {p : Addr} {o : HO} (s : Same Hb H) (n : H p = none) : ExtH Hb H Hb (upd H p o) := by
  have k : Same H (upd H p o) := fun b u e => by rw [upd_ne (ne_of_none e n)]; exact e
  exact ⟨Same.refl _, k, fun _ _ _ => rfl, s.trans k⟩
def RO (K : PySem.W.Frag) (Hb' H H' : Hp) (w : W) (v : V) : Prop := match w with
  | .val d => Rp K Hb' d v
  | .cel _ => False
  | .tmp oc => ∃ a, v = .ref a ∧ Hb' a = none ∧ H a = none ∧ Cont K Hb' H' a oc
theorem Rl.ro (R : Rl K c f Hb env σ H) (h : RO K Hb' H H' w v) : RW K f Hb' env σ H' w v := by
  cases w with
  | val d => exact h
  | cel i => exact h.elim
  | tmp oc =>
    obtain ⟨a, e, h1, h2, h3⟩ := h
    refine ⟨a, e, h1, R.frm.free h2, h3, fun i oc' hi q => ?_⟩
    obtain ⟨a', q', _, _, h4⟩ := R.own hi
    rw [q] at q'; cases q'
    obtain ⟨o, ho⟩ := h4.there
    rw [h2] at ho; cases ho
theorem Rl.freeze (R : Rl K c f Hb env σ H) {a : Addr} {oc : OC} (hb : Hb a = none) (hf : f.Fr a = none) (hc : Cont K Hb H a oc) (hn : ∀ (i : Nat) (oc' : OC), env[i]? = some (some (.own oc')) → σ[i]? ≠ some (some (.ref a))) :
    ∃ Hb', Same Hb Hb' ∧ Rl K c f Hb' env σ H ∧ Rp K Hb' oc.fz (.ref a) := by
  obtain ⟨o, ho⟩ := hc.there
  have s : Same Hb (upd Hb a o) := fun b u e => by rw [upd_ne (ne_of_none e hb)]; exact e
  refine ⟨upd Hb a o, s, ⟨R.len, fun e => ?_, fun {i oc'} e => ?_, R.inj, fun b u e => ?_, R.frm, fun b u e => ?_, fun P hP => ?_, R.fix, R.xv.mn s⟩, ?_⟩
  · obtain ⟨v, h1, h2⟩ := R.val e
    exact ⟨v, h1, h2.mn s⟩
  · obtain ⟨a', h1, h2, h3, h4⟩ := R.own e
    have ne : a' ≠ a := by rintro rfl; exact hn i oc' e h1
    exact ⟨a', h1, by rw [upd_ne ne]; exact h2, h3, h4.mn s fun _ q => q⟩
  · by_cases hba : b = a
    · subst hba; rw [upd_same] at e; cases e; exact ho
    · rw [upd_ne hba] at e; exact R.sub _ _ e
  · rw [upd_ne (ne_of_none e hf)]; exact R.frb b u e
  · obtain ⟨h1, h2, h3⟩ := R.tab P hP
    exact ⟨h1.mn s (.refl _), by rw [upd_ne (hc.notab h1.g)]; exact h2, h3⟩
  · cases oc with
    | lst ds =>
      obtain ⟨vs, e, r⟩ := hc
      rw [ho] at e; cases e
      exact .lst upd_same (r.mn s)
    | ins C fs =>
      obtain ⟨dx, gs, e, r⟩ := hc
      rw [ho] at e; cases e
      exact .obj upd_same (r.mn s)
theorem Rl.fzv (R : Rl K c f Hb env σ H) (h : RW K f Hb env σ H w v) : ∃ Hb', Same Hb Hb' ∧ Rl K c f Hb' env σ H ∧ RS K Hb' σ (fzv w) v := by
  cases w with
  | val d => exact ⟨Hb, Same.refl _, R, h⟩
  | cel i => exact ⟨Hb, Same.refl _, R, h⟩
  | tmp oc =>
    obtain ⟨a, rfl, h1, h2, h3, h4⟩ := h
    exact R.freeze h1 h2 h3 h4
def fz (w : W) (env : Env) (k : D → Env → Prop) : Prop := match w with
  | .val d => k d env
  | .tmp oc => k oc.fz env
  | .cel i => match env[i]? with
    | some (some (.val d)) => k d env
    | some (some (.own oc)) => k oc.fz (env.set i (some (.val oc.fz)))
    | _ => False
@[simp] theorem fz_val {d : D} {env : Env} {k : D → Env → Prop} : fz (.val d) env k = k d env := rfl
@[simp] theorem fz_tmp {oc : OC} {env : Env} {k : D → Env → Prop} : fz (.tmp oc) env k = k oc.fz env := rfl
def fzC (o : Option (Option M)) (i : Nat) (env : Env) (k : D → Env → Prop) : Prop := match o with
  | some (some (.val d)) => k d env
  | some (some (.own oc)) => k oc.fz (env.set i (some (.val oc.fz)))
  | _ => False
@[simp] theorem fz_cel {i : Nat} {env : Env} {k : D → Env → Prop} : fz (.cel i) env k = fzC env[i]? i env k := rfl
@[simp] theorem fzC_val {i : Nat} {d : D} {env : Env} {k : D → Env → Prop} : fzC (some (some (.val d))) i env k = k d env := rfl
@[simp] theorem fzC_own {i : Nat} {oc : OC} {env : Env} {k : D → Env → Prop} : fzC (some (some (.own oc))) i env k = k oc.fz (env.set i (some (.val oc.fz))) := rfl
@[simp] theorem fzC_n {i : Nat} {env : Env} {k : D → Env → Prop} : fzC (some none) i env k = False := rfl
@[simp] theorem fzC_0 {i : Nat} {env : Env} {k : D → Env → Prop} : fzC none i env k = False := rfl
@[simp] theorem fzv_val {d : D} : fzv (.val d) = .val d := rfl
@[simp] theorem fzv_cel {i : Nat} : fzv (.cel i) = .cel i := rfl
@[simp] theorem fzv_tmp {oc : OC} : fzv (.tmp oc) = .val oc.fz := rfl
@[simp] theorem view_val {d : D} {env : Env} : view (.val d) env = some d := rfl
@[simp] theorem view_tmp {oc : OC} {env : Env} : view (.tmp oc) env = some oc.fz := rfl
def viewC (o : Option (Option M)) : Option D := match o with
  | some (some m) => some m.view
  | _ => none
@[simp] theorem view_cel {i : Nat} {env : Env} : view (.cel i) env = viewC env[i]? := rfl
@[simp] theorem viewC_m {m : M} : viewC (some (some m)) = some m.view := rfl
@[simp] theorem viewC_n : viewC (some none) = none := rfl
@[simp] theorem viewC_0 : viewC none = none := rfl
theorem set_get {α : Type} {l : List α} {i j : Nat} {x y : α} (h : (l.set i x)[j]? = some y) : (i = j ∧ y = x) ∨ (i ≠ j ∧ l[j]? = some y) := by
  by_cases e : i = j
  · subst e
    by_cases hl : i < l.length
    · rw [List.getElem?_set_self hl] at h; cases h; exact .inl ⟨rfl, rfl⟩
    · rw [List.getElem?_eq_none (by simpa using hl)] at h; cases h
  · rw [List.getElem?_set_ne e] at h; exact .inr ⟨e, h⟩
theorem Rl.fz (R : Rl K c f Hb env σ H) (h : RW K f Hb env σ H w v) {k : D → Env → Prop} (q : fz w env k) : ∃ d env' Hb', Same Hb Hb' ∧ Rl K c f Hb' env' σ H ∧ Rp K Hb' d v ∧ k d env' := by
  cases w with
  | val d => exact ⟨d, env, Hb, Same.refl _, R, h, q⟩
  | tmp oc =>
    obtain ⟨a, rfl, h1, h2, h3, h4⟩ := h
    obtain ⟨Hb', s, R', r⟩ := R.freeze h1 h2 h3 h4
    exact ⟨_, env, Hb', s, R', r, q⟩
  | cel i =>
    have h : σ[i]? = some (some v) := h
    unfold VL.fz at q
    split at q
    · rename_i e; cases e
    · rename_i e; cases e
    · rename_i j e
      cases e
      split at q
      · rename_i d hd
        obtain ⟨v', h1, h2⟩ := R.val hd
        rw [h] at h1; cases h1
        exact ⟨d, env, Hb, Same.refl _, R, h2, q⟩
      · rename_i oc hd
        obtain ⟨a, h1, h2, h3, h4⟩ := R.own hd
        rw [h] at h1; cases h1
        have R0 : Rl K c f Hb (env.set i none) σ H := by
          refine ⟨by simpa using R.len, fun {j d} e => ?_, fun {j oc'} e => ?_, fun {j k o1 o2 b} e1 e2 e3 e4 => ?_, R.sub, R.frm, R.frb, R.tab, R.fix, R.xv⟩
          · rcases set_get e with ⟨_, e⟩ | ⟨_, e⟩
            · cases e
            · exact R.val e
          · rcases set_get e with ⟨_, e⟩ | ⟨_, e⟩
            · cases e
            · exact R.own e
          · rcases set_get e1 with ⟨_, e1⟩ | ⟨_, e1⟩
            · cases e1
            · rcases set_get e2 with ⟨_, e2⟩ | ⟨_, e2⟩
              · cases e2
              · exact R.inj e1 e2 e3 e4
        obtain ⟨Hb', s, R', r⟩ := R0.freeze h2 h3 h4 (fun j oc' e z => by
          rcases set_get e with ⟨_, e⟩ | ⟨ne, e⟩
          · cases e
          · exact ne (R.inj hd e h z))
        refine ⟨_, _, Hb', s, ⟨by simpa using R.len, fun {j d} e => ?_, fun {j oc'} e => ?_, fun {j k o1 o2 b} e1 e2 e3 e4 => ?_, R'.sub, R'.frm, R'.frb, R'.tab, R'.fix, R'.xv⟩, r, q⟩
        · rcases set_get e with ⟨ee, e2⟩ | ⟨ne, e2⟩
          · cases e2; subst ee; exact ⟨_, h, r⟩
          · exact R'.val (by rw [List.getElem?_set_ne ne]; exact e2)
        · rcases set_get e with ⟨ee, e⟩ | ⟨ne, e⟩
          · cases e
          · exact R'.own (by rw [List.getElem?_set_ne ne]; exact e)
        · rcases set_get e1 with ⟨_, e1⟩ | ⟨ne1, e1⟩
          · cases e1
          · rcases set_get e2 with ⟨_, e2⟩ | ⟨ne2, e2⟩
            · cases e2
            · exact R.inj e1 e2 e3 e4
      · exact q.elim
end
end VL
set_option Elab.async false
set_option linter.all false
set_option maxRecDepth 100000
set_option maxHeartbeats 4000000
namespace VL
open PySem PySem.Spec PyProof.Rows L2
variable [CM]
abbrev VQ := W → Env → Prop
abbrev VX := Str → List (Str × D) → Env → Prop
abbrev VT := Env → VQ → VX → Prop
abbrev VTT := Env → (Bool → Env → Prop) → VX → Prop
abbrev VTA := Env → (List W → Env → Prop) → VX → Prop
noncomputable def isXb (C X : Str) : Bool := @decide (C = X ∨ X = "CubeError") (Classical.propDecidable _)
structure IsExc (K : PySem.W.Frag) (C : Str) : Prop where
  ex : ExcC K (CM.at_ C)
  sub : ∀ Y ∈ CM.xs, PySem.W.exmOne K (.ref (CM.at_ C)) (.ref (CM.at_ Y)) = some (isXb C Y) ∧ PySem.W.kitOne K (.ref (CM.at_ C)) (.ref (CM.at_ Y)) = some (isXb C Y)
  ve : PySem.W.kitOne K (.ref (CM.at_ C)) (.type "ValueError") = some true
  cl : PySem.W.isClsIn K (CM.at_ C) = true
  no : ∀ f : Str, f = "name" ∨ f = "at" ∨ f = "count" → PySem.W.findIn K (.ref (CM.at_ C)) f = some none
def XR (K : PySem.W.Frag) (C : Str) (Hb H : Hp) (d : Option Addr) (fs : List (Str × D)) : Prop :=
  IsExc K C ∧ ((d = none ∧ fs = []) ∨ (fs ≠ [] ∧ ∃ dd gs, d = some dd ∧ Hb dd = some (.xd gs) ∧ RpF K Hb fs gs))
def PX (K : PySem.W.Frag) (c : VC) (f : Fm) (Wx : WX) (Hb : Hp) (σ : L2.St) (QX : VX) : Prop :=
  ∀ C fs env' d H' Hb', Same Hb Hb' → Rl K c f Hb' env' σ H' → XR K C Hb' H' d fs → QX C fs env' → Wx (.ref (CM.at_ C)) d σ H'
theorem PX.mn {K : PySem.W.Frag} {c : VC} {f : Fm} {Wx : WX} {Hb Hb' : Hp} {σ : L2.St} {QX : VX} (h : PX K c f Wx Hb σ QX) (s : Same Hb Hb') : PX K c f Wx Hb' σ QX :=
  fun C fs env' d H' Hb2 s2 R x q => h C fs env' d H' Hb2 (s.trans s2) R x q
def SimE (K : PySem.W.Frag) (c : VC) (Wx : WX) (te : TE) (t : VT) : Prop := ∀ (f : Fm) (Hb : Hp) (env : Env) (σ : L2.St) (H : Hp) (Q : VQ) (QX : VX) (Q' : VK), Rl K c f Hb env σ H → t env Q QX → PX K c f Wx Hb σ QX →
  (∀ w env' v H' Hb', Same Hb Hb' → Rl K c f Hb' env' σ H' → RW K f Hb' env' σ H' w v → Q w env' → Q' v H') → te σ H Q'
def SimT (K : PySem.W.Frag) (c : VC) (Wx : WX) (te : TT) (t : VTT) : Prop := ∀ (f : Fm) (Hb : Hp) (env : Env) (σ : L2.St) (H : Hp) (Q : Bool → Env → Prop) (QX : VX) (Q' : Bool → Hp → Prop), Rl K c f Hb env σ H → t env Q QX → PX K c f Wx Hb σ QX →
  (∀ b env' H' Hb', Same Hb Hb' → Rl K c f Hb' env' σ H' → Q b env' → Q' b H') → te σ H Q'
abbrev RSs (K : PySem.W.Frag) (Hb : Hp) (σ : L2.St) : List W → List V → Prop := Paired (RS K Hb σ)
def SimA (K : PySem.W.Frag) (c : VC) (Wx : WX) (te : TA) (t : VTA) : Prop := ∀ (f : Fm) (Hb : Hp) (env : Env) (σ : L2.St) (H : Hp) (Q : List W → Env → Prop) (QX : VX) (Q' : List V → Hp → Prop), Rl K c f Hb env σ H → t env Q QX → PX K c f Wx Hb σ QX →
  (∀ ws env' vs H' Hb', Same Hb Hb' → Rl K c f Hb' env' σ H' → RSs K Hb' σ ws vs → Q ws env' → Q' vs H') → te σ H Q'
structure VE (X : Cx) (c : VC) (Wx : WX) (e : Expr) (te : TE) (t : VT) : Prop where
  pe : PE X e te
  sim : SimE X.K c Wx te t
structure VTe (X : Cx) (c : VC) (Wx : WX) (e : Expr) (te : TT) (t : VTT) : Prop where
  pt : PT X e te
  sim : SimT X.K c Wx te t
structure VW (X : Cx) (c : VC) (Wx : WX) (e : Expr) (te : TT) (t : VTT) : Prop where
  pw : PW X e te
  sim : SimT X.K c Wx te t
structure VA (X : Cx) (c : VC) (Wx : WX) (es : List Expr) (te : TA) (t : VTA) : Prop where
  pa : PA X es te
  sim : SimA X.K c Wx te t
theorem RSs.mn {K : PySem.W.Frag} {Hb Hb' : Hp} {σ : L2.St} : ∀ {ws : List W} {vs : List V}, RSs K Hb σ ws vs → Same Hb Hb' → RSs K Hb' σ ws vs
  | [], _, h, _ => by cases h; exact .nil
  | w :: ws, _, h, s => by cases h with | cons a r => exact .cons (RS.mn a s) (RSs.mn r s)
def rd (w : W) (env : Env) (k : D → Prop) : Prop := match view w env with
  | some d => k d
  | none => False
@[simp] theorem rd_val {d : D} {env : Env} {k : D → Prop} : rd (.val d) env k = k d := rfl
@[simp] theorem rd_tmp {oc : OC} {env : Env} {k : D → Prop} : rd (.tmp oc) env k = k oc.fz := rfl
def rdC (o : Option (Option M)) (k : D → Prop) : Prop := match o with
  | some (some m) => k m.view
  | _ => False
@[simp] theorem rd_cel {i : Nat} {env : Env} {k : D → Prop} : rd (.cel i) env k = rdC env[i]? k := by
  show (match (match env[i]? with | some (some m) => some m.view | _ => none) with | some d => k d | none => False) = rdC env[i]? k
  generalize env[i]? = o
  rcases o with _ | _ | m <;> rfl
@[simp] theorem rdC_m {m : M} {k : D → Prop} : rdC (some (some m)) k = k m.view := rfl
@[simp] theorem rdC_n {k : D → Prop} : rdC (some none) k = False := rfl
@[simp] theorem rdC_0 {k : D → Prop} : rdC none k = False := rfl
theorem rd_of {w : W} {env : Env} {k : D → Prop} (h : rd w env k) : ∃ d, view w env = some d ∧ k d := by
  unfold rd at h
  split at h
  · rename_i d e; exact ⟨d, e, h⟩
  · exact h.elim
theorem takes0N {X : Cx} : L2N.Takes X (fun _ _ _ _ => False) := fun _ _ ⟨_, _, _, _, _, _, _, _, _, _, _, _, _, _, _, _, z⟩ => z.elim
section
variable {K : PySem.W.Frag} {c : VC} {Wx : WX} {X : Cx}
@[simp] def vName (i : Nat) : VT := fun env Q _ => match env[i]? with
  | some (some (.val d)) => Q (.val d) env
  | some (some (.own _)) => Q (.cel i) env
  | _ => False
theorem sim_name {i : Nat} : SimE K c Wx (tVar i) (vName i) := by
  intro f Hb env σ H Q QX Q' R q px k
  unfold vName at q
  split at q
  · rename_i d e
    obtain ⟨v, h1, h2⟩ := R.val e
    exact ⟨v, h1, k (.val d) _ _ _ _ (Same.refl _) R h2 q⟩
  · rename_i oc e
    obtain ⟨a, h1, _⟩ := R.own e
    exact ⟨_, h1, k (.cel i) _ _ _ _ (Same.refl _) R h1 q⟩
  · exact q.elim
@[simp] def vC (d : D) : VT := fun env Q _ => Q (.val d) env
theorem sim_c {v : V} {d : D} (h : ∀ H, Rp K H d v) : SimE K c Wx (tC v) (vC d) := fun f Hb env σ H Q QX Q' R q px k => k (.val d) _ _ _ _ (Same.refl _) R (h Hb) q
theorem ve_name (i : Nat) {x : Str} {pos : Pos} (hN : X.N[i]? = some x := by rfl) (hv : Vis X.env.scope x := by first | exact Or.inl rfl | exact Or.inr (Or.inl rfl) | exact Or.inr (Or.inr rfl)) (hd : (x == ("__debug__" : Str)) = false := by decide)
    (hcd : (x == ("__classdict__" : Str)) = false := by decide) : VE X c Wx (.Name x pos) (tVar i) (vName i) := ⟨pe_var hN hv hd hcd, sim_name⟩
theorem ve_int {i : Int} {j pos} : VE X c Wx (.Constant (.int i) j pos) (tC (.int i)) (vC (.int i)) := ⟨pe_int, sim_c fun _ => .int i⟩
theorem ve_bl {b : Bool} {j pos} : VE X c Wx (.Constant (.bool b) j pos) (tC (.bl b)) (vC (.bl b)) := ⟨pe_bl, sim_c fun _ => .bl b⟩
theorem ve_non {j pos} : VE X c Wx (.Constant .none j pos) (tC .non) (vC .non) := ⟨pe_non, sim_c fun _ => .non⟩
theorem ve_str {x : Str} {j pos} : VE X c Wx (.Constant (.str x) j pos) (tC (.str x)) (vC (.str x)) := ⟨pe_str, sim_c fun _ => .str x⟩
structure GlobC (X : Cx) (x : Str) (d : D) (v : V) : Prop where
  at_ : ∃ u, X.mg x = some u ∧ RelV v u
  rp : ∀ H, Rp X.K H d v
theorem ve_glob {x : Str} {d : D} {v : V} {pos : Pos} (G : GlobC X x d v) (hg : Gl X x := by rfl) (hd : (x == ("__debug__" : Str)) = false := by decide) : VE X c Wx (.Name x pos) (tC v) (vC d) := by
  obtain ⟨u, h1, h2⟩ := G.at_
  exact ⟨pe_glob hg h1 h2 hd, sim_c G.rp⟩
abbrev G2 := D → D → (W → Prop) → Prop
def OpS (K : PySem.W.Frag) (r : R2) (g : G2) : Prop := ∀ (Hb H : Hp) (d1 d2 : D) (v1 v2 : V) (Q : W → Prop) (Q' : VK), Same Hb H → RR K Hb H d1 v1 → RR K Hb H d2 v2 → g d1 d2 Q →
  (∀ w v H' Hb', ExtH Hb H Hb' H' → RO K Hb' H H' w v → Q w → Q' v H') → r v1 v2 H Q'
@[simp] def vOp (g : G2) (ta tb : VT) : VT := fun env Q QX => ta env (fun w1 env1 => tb env1 (fun w2 env2 => rd (fzv w1) env2 fun d1 => rd w2 env2 fun d2 => g d1 d2 fun w => Q w env2) QX) QX
theorem sim_op {r : R2} {g : G2} {ta tb : TE} {va vb : VT} (ho : OpS K r g) (ha : SimE K c Wx ta va) (hb : SimE K c Wx tb vb) : SimE K c Wx (tOp r ta tb) (vOp g va vb) := by
  intro f Hb env σ H Q QX Q' R q px k
  refine ha f Hb env σ H _ QX _ R q px fun w1 env1 v1 H1 Hb1 s1 R1 r1 q1 => ?_
  obtain ⟨Hb1', s1', R1', r1'⟩ := R1.fzv r1
  refine hb f Hb1' env1 σ H1 _ QX _ R1' q1 (px.mn (s1.trans s1')) fun w2 env2 v2 H2 Hb2 s2 R2 r2 q2 => ?_
  obtain ⟨d1, e1, q2⟩ := rd_of q2
  obtain ⟨d2, e2, q2⟩ := rd_of q2
  have rr1 := R2.rd (RS.rw (r1'.mn s2)) e1
  have rr2 := R2.rd r2 e2
  exact ho Hb2 H2 d1 d2 v1 v2 _ Q' R2.sub rr1 rr2 q2 fun w v H' Hb' x ro qw => k w env2 v H' Hb' (((s1.trans s1').trans s2).trans x.b) (R2.ext x) (R2.ro ro) qw
theorem ve_op {op : Operator} {r : R2} {g : G2} {a b : Expr} {ta tb : TE} {va vb : VT} {pos : Pos} (ho : OpR X (binaryOp op) r) (hs : OpS X.K r g) (ha : VE X c Wx a ta va) (hb : VE X c Wx b tb vb) : VE X c Wx (.BinOp a op b pos) (tOp r ta tb) (vOp g va vb) :=
  ⟨pe_op ho ha.pe hb.pe, sim_op hs ha.sim hb.sim⟩
theorem OpR.or {f : Value → Value → Sem Value} {r r' : R2} (h : OpR X f r) (h' : OpR X f r') : OpR X f (fun x y H Q => r x y H Q ∨ r' x y H Q) := by
  intro pins s σ H x y v u Q I rx ry q
  rcases q with q | q
  · exact h pins s σ H x y v u Q I rx ry q
  · exact h' pins s σ H x y v u Q I rx ry q
theorem Rp.tupN {Hb H : Hp} {p : Addr} {o : Obj} {ds : List D} {vs : List V} (s : Same Hb H) (n : H p = none) (z : o.dict = none) (r : RpL K Hb ds vs) : Rp K (upd Hb p (.frz o (.tup vs))) (.tup ds) (.ref p) :=
  .tup (newT_frz z) (r.mn (ExtH.new (o := .frz o (.tup vs)) s n).b)
theorem RO.lstN {Hb H : Hp} {p : Addr} {ds : List D} {vs : List V} (s : Same Hb H) (n : H p = none) (r : RpL K Hb ds vs) : RO K Hb H (upd H p (.lst vs)) (.tmp (.lst ds)) (.ref p) :=
  ⟨p, rfl, s.free n, n, vs, upd_same, r⟩
@[simp] def dAdd : G2
  | .int i, .int j, Q => Q (.val (.int (i + j)))
  | .str x, .str y, Q => x.length + y.length ≤ sizeLine ∧ Q (.val (.str (x ++ y)))
  | .tup xs, .tup ys, Q => xs.length + ys.length ≤ sizeLine ∧ Q (.val (.tup (xs ++ ys)))
  | .lst xs, .lst ys, Q => xs.length + ys.length ≤ sizeLine ∧ Q (.tmp (.lst (xs ++ ys)))
  | _, _, _ => False
def rAdd (K : PySem.W.Frag) : R2 := fun x y H Q => rI0 (fun i j => .int (i + j)) x y H Q ∨ ((∃ i j, x = .str i ∧ y = .str j ∧ i.length + j.length ≤ sizeLine ∧ Q (.str (i ++ j)) H) ∨ (rCatN K x y H Q ∨ rCat x y H Q))
theorem opr_add : OpR X (binaryOp .Add) (rAdd X.K) := OpR.or op_add (OpR.or op_add_str (OpR.or op_catN op_cat))
theorem ops_add : OpS K (rAdd K) dAdd := by
  intro Hb H d1 d2 v1 v2 Q Q' s r1 r2 g k
  unfold dAdd at g
  split at g
  · cases r1; cases r2
    exact .inl ⟨_, _, rfl, rfl, k (.val _) _ _ _ (.refl s) (.int _) g⟩
  · cases r1; cases r2
    exact .inr (.inl ⟨_, _, rfl, rfl, g.1, k (.val _) _ _ _ (.refl s) (.str _) g.2⟩)
  · rename_i xs ys
    cases r1 with
    | tup s1 p1 =>
      cases r2 with
      | tup s2 p2 =>
        refine .inr (.inr (.inl ⟨_, _, _, _, rfl, rfl, same_seqT s s1.1, same_seqT s s2.1, by rw [p1.length, p2.length]; exact g.1, fun e => ?_, fun e1 e2 => ?_, fun e1 e2 p o np zz => ?_⟩))
        · subst e
          cases p1
          exact k (.val _) _ _ _ (.refl s) (.tup s2 p2) g.2
        · subst e2
          cases p2
          have g2 := g.2
          rw [List.append_nil] at g2
          exact k (.val _) _ _ _ (.refl s) (.tup s1 p1) g2
        · exact k (.val _) _ _ _ (ExtH.new s np) (Rp.tupN s np zz (p1.app p2)) g.2
  · cases r1 with
    | lst s1 p1 =>
      cases r2 with
      | lst s2 p2 =>
        refine .inr (.inr (.inr ⟨_, _, _, _, rfl, rfl, s1, s2, by rw [p1.length, p2.length]; exact g.1, fun p np => ?_⟩))
        exact k (.tmp (.lst _)) _ _ _ (ExtH.newT s np) (RO.lstN s np (p1.app p2)) g.2
  · exact g.elim
@[simp] def dSub : G2
  | .int i, .int j, Q => Q (.val (.int (i - j)))
  | _, _, _ => False
theorem ops_sub : OpS K (rI0 fun i j => .int (i - j)) dSub := by
  intro Hb H d1 d2 v1 v2 Q Q' s r1 r2 g k
  unfold dSub at g
  split at g
  · cases r1; cases r2
    exact ⟨_, _, rfl, rfl, k (.val _) _ _ _ (.refl s) (.int _) g⟩
  · exact g.elim
@[simp] def dMul : G2
  | .int i, .int j, Q => (CMul i j ∨ CMulW i j) ∧ Q (.val (.int (i * j)))
  | .lst xs, .int n, Q => -(2 ^ 63) ≤ n ∧ n < 2 ^ 63 ∧ xs.length * n.toNat ≤ sizeLine ∧ Q (.tmp (.lst (List.replicate n.toNat xs).flatten))
  | _, _, _ => False
theorem RpL.rep {Hb : Hp} {ds : List D} {vs : List V} (h : RpL K Hb ds vs) : ∀ n : Nat, RpL K Hb (List.replicate n ds).flatten (List.replicate n vs).flatten
  | 0 => .nil
  | n + 1 => by
    simp only [List.replicate_succ, List.flatten_cons]
    exact h.app (RpL.rep h n)
abbrev rMulA : R2 := fun x y H Q => rI CMul (fun i j => .int (i * j)) x y H Q ∨ (rI CMulW (fun i j => .int (i * j)) x y H Q ∨ rRep x y H Q)
theorem ops_mul : OpS K rMulA dMul := by
  intro Hb H d1 d2 v1 v2 Q Q' s r1 r2 g k
  unfold dMul at g
  split at g
  · cases r1; cases r2
    rcases g.1 with z | z
    · exact .inl ⟨_, _, rfl, rfl, z, k (.val _) _ _ _ (.refl s) (.int _) g.2⟩
    · exact .inr (.inl ⟨_, _, rfl, rfl, z, k (.val _) _ _ _ (.refl s) (.int _) g.2⟩)
  · cases r2
    cases r1 with
    | lst s1 p1 =>
      refine .inr <| .inr ⟨_, _, _, rfl, rfl, s1, g.1, g.2.1, by rw [p1.length]; exact g.2.2.1, fun p np => ?_⟩
      exact k (.tmp (.lst _)) _ _ _ (ExtH.newT s np) (RO.lstN s np (RpL.rep p1 _)) g.2.2.2
  · exact g.elim
theorem opr_mul : OpR X (binaryOp .Mult) rMulA := OpR.or op_mul (OpR.or op_mulW op_rep)
@[simp] def dDiv : G2
  | .int i, .int j, Q => (CDivW i j ∨ CDivN i j) ∧ Q (.val (.int (i.fdiv j)))
  | _, _, _ => False
theorem opr_div : OpR X (binaryOp .FloorDiv) (fun x y H Q => rI CDivW (fun i j => .int (i / j)) x y H Q ∨ rI CDivN (fun i j => .int (i.fdiv j)) x y H Q) := OpR.or op_fdivW op_fdivN
theorem ops_div : OpS K (fun x y H Q => rI CDivW (fun i j => .int (i / j)) x y H Q ∨ rI CDivN (fun i j => .int (i.fdiv j)) x y H Q) dDiv := by
  intro Hb H d1 d2 v1 v2 Q Q' s r1 r2 g k
  unfold dDiv at g
  split at g
  · cases r1; cases r2
    rcases g.1 with z | z
    · refine .inl ⟨_, _, rfl, rfl, z, k (.val _) _ _ _ (.refl s) (.int _) ?_⟩
      rw [← Int.fdiv_eq_ediv_of_nonneg _ (Int.le_of_lt z.1)]
      exact g.2
    · exact .inr ⟨_, _, rfl, rfl, z, k (.val _) _ _ _ (.refl s) (.int _) g.2⟩
  · exact g.elim
@[simp] def dMod : G2
  | .int i, .int j, Q => j ≠ 0 ∧ Q (.val (.int (i.fmod j)))
  | _, _, _ => False
theorem ops_mod : OpS K (rI (fun _ j => j ≠ 0) fun i j => .int (i.fmod j)) dMod := by
  intro Hb H d1 d2 v1 v2 Q Q' s r1 r2 g k
  unfold dMod at g
  split at g
  · cases r1; cases r2
    exact ⟨_, _, rfl, rfl, g.1, k (.val _) _ _ _ (.refl s) (.int _) g.2⟩
  · exact g.elim
@[simp] def dPow : G2
  | .int i, .int j, Q => CPow i j ∧ Q (.val (.int (i ^ j.toNat)))
  | _, _, _ => False
theorem ops_pow : OpS K (rI CPow fun i j => .int (i ^ j.toNat)) dPow := by
  intro Hb H d1 d2 v1 v2 Q Q' s r1 r2 g k
  unfold dPow at g
  split at g
  · cases r1; cases r2
    exact ⟨_, _, rfl, rfl, g.1, k (.val _) _ _ _ (.refl s) (.int _) g.2⟩
  · exact g.elim
@[simp] def vUn (g : D → (W → Prop) → Prop) (ta : VT) : VT := fun env Q QX => ta env (fun w1 env1 => rd w1 env1 fun d1 => g d1 fun w => Q w env1) QX
@[simp] def dNeg : D → (W → Prop) → Prop
  | .int i, Q => Q (.val (.int (-i)))
  | _, _ => False
theorem ve_neg {a : Expr} {ta : TE} {va : VT} {pos : Pos} (ha : VE X c Wx a ta va) : VE X c Wx (.UnaryOp .USub a pos) (tUn (rU fun i => .int (-i)) ta) (vUn dNeg va) := by
  refine ⟨pe_un un_neg ha.pe, fun f Hb env σ H Q QX Q' R q px k => ?_⟩
  refine ha.sim f Hb env σ H _ QX _ R q px fun w1 env1 v1 H1 Hb1 s1 R1 r1 q1 => ?_
  obtain ⟨d1, e1, q1⟩ := rd_of q1
  have rr := R1.rd r1 e1
  unfold dNeg at q1
  split at q1
  · cases rr
    exact ⟨_, rfl, k (.val (.int _)) _ _ _ _ s1 R1 (.int _) q1⟩
  · exact q1.elim
theorem ve_cmp {op : CmpOp} {r : R2} {g : G2} {a b : Expr} {ta tb : TE} {va vb : VT} {pos : Pos} (ho : OpR X (compareOp op) r) (hs : OpS X.K r g) (hm : behindInMarks op b = false) (ha : VE X c Wx a ta va) (hb : VE X c Wx b tb vb) : VE X c Wx (.Compare a [op] [b] pos) (tOp r ta tb) (vOp g va vb) :=
  ⟨pe_cmpR ho ha.pe hb.pe hm, sim_op hs ha.sim hb.sim⟩
@[simp] def vTest (t : VT) : VTT := fun env Q QX => t env (fun w env1 => match w with
  | .val (.bl b) => Q b env1
  | _ => False) QX
theorem sim_test {te : TE} {t : VT} (h : SimE K c Wx te t) : SimT K c Wx (tTest te) (vTest t) := by
  intro f Hb env σ H Q QX Q' R q px k
  refine h f Hb env σ H _ QX _ R q px fun w env1 v1 H1 Hb1 s1 R1 r1 q1 => ?_
  split at q1
  · cases r1
    exact ⟨_, rfl, k _ _ _ _ s1 R1 q1⟩
  · exact q1.elim
theorem vt_cmp {op : CmpOp} {r : R2} {g : G2} {a b : Expr} {ta tb : TE} {va vb : VT} {pos : Pos} (ho : OpR X (compareOp op) r) (hs : OpS X.K r g) (hm : behindInMarks op b = false) (ha : VE X c Wx a ta va) (hb : VE X c Wx b tb vb) : VTe X c Wx (.Compare a [op] [b] pos) (tTest (tOp r ta tb)) (vTest (vOp g va vb)) :=
  ⟨pt_cmpR ho ha.pe hb.pe hm, sim_test (sim_op hs ha.sim hb.sim)⟩
theorem vt_val {e : Expr} {te : TE} {t : VT} (h : VE X c Wx e te t) (he : ∀ whole, isTrue e X.env whole = (do let v ← whole; standAt e.pos; holding [v] (truthy v)) := by intro _; rfl) : VTe X c Wx e (tB te) (vTest t) :=
  ⟨pt_val h.pe he, sim_test h.sim⟩
@[simp] def cI (p : Int → Int → Bool) : G2
  | .int i, .int j, Q => Q (.val (.bl (p i j)))
  | _, _, _ => False
mutual
def toPy : D → Option PyData
  | .non => some .none
  | .bl b => some (.bool b)
  | .int i => some (.int i)
  | .str x => some (.str x)
  | .tup ds => (toPys ds).map .tuple
  | .lst ds => (toPys ds).map .list
  | .obj _ _ => none
  | .scr _ => none
def toPys : List D → Option (List PyData)
  | [] => some []
  | d :: ds => match toPy d, toPys ds with
    | some x, some xs => some (x :: xs)
    | _, _ => none
end
mutual
theorem Rp.dp {H : Hp} : ∀ (d : D) (v : V) (p : PyData), Rp K H d v → toPy d = some p → Dp K H v p
  | .non, _, _, h, e => by cases h; unfold toPy at e; cases e; exact .non
  | .bl b, _, _, h, e => by cases h; unfold toPy at e; cases e; exact .bl b
  | .int i, _, _, h, e => by cases h; unfold toPy at e; cases e; exact .int i
  | .str x, _, _, h, e => by cases h; unfold toPy at e; cases e; exact .str x
  | .tup ds, _, _, h, e => by
    cases h with
    | tup s r =>
      unfold toPy at e
      cases q : toPys ds with
      | none => rw [q] at e; cases e
      | some ps => rw [q] at e; cases e; exact .tup s.1 (RpL.dp ds _ ps r q)
  | .lst ds, _, _, h, e => by
    cases h with
    | lst s r =>
      unfold toPy at e
      cases q : toPys ds with
      | none => rw [q] at e; cases e
      | some ps => rw [q] at e; cases e; exact .lst (.of s) (RpL.dp ds _ ps r q)
  | .obj _ _, _, _, _, e => by unfold toPy at e; cases e
  | .scr _, _, _, _, e => by unfold toPy at e; cases e
theorem RpL.dp {H : Hp} : ∀ (ds : List D) (vs : List V) (ps : List PyData), RpL K H ds vs → toPys ds = some ps → DpAll K H vs ps
  | [], _, _, h, e => by cases h; unfold toPys at e; cases e; exact .nil
  | d :: ds, _, _, h, e => by
    cases h with
    | cons a r =>
      unfold toPys at e
      split at e
      · rename_i x xs e1 e2
        cases e
        exact .cons (Rp.dp d _ x a e1) (RpL.dp ds _ xs r e2)
      · cases e
end
def dEqG (neg : Bool) (a b : D) (Q : W → Prop) : Prop := match toPy a, toPy b with
  | some x, some y => SeqAt.shaped x = true ∧ SeqAt.shaped y = true ∧ Q (.val (.bl (if neg then !PyData.eqv x y else PyData.eqv x y)))
  | _, _ => False
@[simp] def dEq (neg : Bool) : G2
  | .int i, .int j, Q => Q (.val (.bl (neg ^^ decide (i = j))))
  | .str i, .str j, Q => Q (.val (.bl (neg ^^ decide (i = j))))
  | .bl i, .bl j, Q => Q (.val (.bl (neg ^^ decide (i = j))))
  | .non, .non, Q => Q (.val (.bl (neg ^^ true)))
  | .int _, .non, Q => Q (.val (.bl neg))
  | .non, .int _, Q => Q (.val (.bl neg))
  | .str _, .non, Q => Q (.val (.bl neg))
  | .non, .str _, Q => Q (.val (.bl neg))
  | .int _, .str _, Q => Q (.val (.bl neg))
  | .str _, .int _, Q => Q (.val (.bl neg))
  | a, b, Q => dEqG neg a b Q
def rEqA (K : PySem.W.Frag) : R2 := fun x y H Q => rEq x y H Q ∨ rEqD K x y H Q
def rNeA (K : PySem.W.Frag) : R2 := fun x y H Q => rNe x y H Q ∨ rNeD K x y H Q
theorem ops_eq : OpS K (rEqA K) (dEq false) := by
  intro Hb H d1 d2 v1 v2 Q Q' s r1 r2 g k
  have gen : dEqG false d1 d2 Q → rEqA K v1 v2 H Q' := fun g => by
    unfold dEqG at g
    split at g
    · rename_i x y e1 e2
      exact .inr ⟨x, y, Rp.dp _ _ _ (r1.up s) e1, Rp.dp _ _ _ (r2.up s) e2, g.1, g.2.1, k (.val _) _ _ _ (.refl s) (.bl _) g.2.2⟩
    · exact g.elim
  unfold dEq at g
  split at g
  · cases r1; cases r2
    refine .inl ⟨rfl, k (.val _) _ _ _ (.refl s) (.bl _) ?_⟩
    simpa using g
  · cases r1; cases r2
    refine .inl ⟨rfl, k (.val _) _ _ _ (.refl s) (.bl _) ?_⟩
    simpa using g
  · cases r1; cases r2
    refine .inl ⟨rfl, k (.val _) _ _ _ (.refl s) (.bl _) ?_⟩
    simpa using g
  all_goals first
    | (cases r1; cases r2; exact .inl ⟨rfl, k (.val _) _ _ _ (.refl s) (.bl _) (by simpa using g)⟩)
    | exact gen g
theorem ops_ne : OpS K (rNeA K) (dEq true) := by
  intro Hb H d1 d2 v1 v2 Q Q' s r1 r2 g k
  have gen : dEqG true d1 d2 Q → rNeA K v1 v2 H Q' := fun g => by
    unfold dEqG at g
    split at g
    · rename_i x y e1 e2
      exact .inr ⟨x, y, Rp.dp _ _ _ (r1.up s) e1, Rp.dp _ _ _ (r2.up s) e2, g.1, g.2.1, k (.val _) _ _ _ (.refl s) (.bl _) g.2.2⟩
    · exact g.elim
  unfold dEq at g
  split at g
  · cases r1; cases r2
    refine .inl ⟨rfl, k (.val _) _ _ _ (.refl s) (.bl _) ?_⟩
    simpa using g
  · cases r1; cases r2
    refine .inl ⟨rfl, k (.val _) _ _ _ (.refl s) (.bl _) ?_⟩
    simpa using g
  · cases r1; cases r2
    refine .inl ⟨rfl, k (.val _) _ _ _ (.refl s) (.bl _) ?_⟩
    simpa using g
  all_goals first
    | (cases r1; cases r2; exact .inl ⟨rfl, k (.val _) _ _ _ (.refl s) (.bl _) (by simpa using g)⟩)
    | exact gen g
end
end VL
set_option Elab.async false
set_option linter.all false
set_option maxRecDepth 100000
set_option maxHeartbeats 4000000
namespace VL
open PySem PySem.Spec PyProof.Rows L2
variable [CM]
section
variable {K : PySem.W.Frag} {c : VC} {Wx : WX} {X : Cx}
@[simp] def vAndT (a b : VTT) : VTT := fun env Q QX => a env (fun k env1 => if k = true then b env1 Q QX else Q false env1) QX
@[simp] def vOrT (a b : VTT) : VTT := fun env Q QX => a env (fun k env1 => if k = true then Q true env1 else b env1 Q QX) QX
@[simp] def vNotT (a : VTT) : VTT := fun env Q QX => a env (fun k env1 => Q (!k) env1) QX
theorem sim_andT {ta tb : TT} {va vb : VTT} (ha : SimT K c Wx ta va) (hb : SimT K c Wx tb vb) : SimT K c Wx (tAnd ta tb) (vAndT va vb) := by
  intro f Hb env σ H Q QX Q' R q px k
  refine ha f Hb env σ H _ QX _ R q px fun b env1 H1 Hb1 s1 R1 q1 => ?_
  cases b with
  | true =>
    rw [if_pos rfl] at q1 ⊢
    exact hb f Hb1 env1 σ H1 Q QX Q' R1 q1 (px.mn s1) fun b env2 H2 Hb2 s2 R2 q2 => k b env2 H2 Hb2 (s1.trans s2) R2 q2
  | false =>
    rw [if_neg Bool.false_ne_true] at q1 ⊢
    exact k _ _ _ _ s1 R1 q1
theorem sim_orT {ta tb : TT} {va vb : VTT} (ha : SimT K c Wx ta va) (hb : SimT K c Wx tb vb) : SimT K c Wx (tOr ta tb) (vOrT va vb) := by
  intro f Hb env σ H Q QX Q' R q px k
  refine ha f Hb env σ H _ QX _ R q px fun b env1 H1 Hb1 s1 R1 q1 => ?_
  cases b with
  | true =>
    rw [if_pos rfl] at q1 ⊢
    exact k _ _ _ _ s1 R1 q1
  | false =>
    rw [if_neg Bool.false_ne_true] at q1 ⊢
    exact hb f Hb1 env1 σ H1 Q QX Q' R1 q1 (px.mn s1) fun b env2 H2 Hb2 s2 R2 q2 => k b env2 H2 Hb2 (s1.trans s2) R2 q2
theorem sim_notT {ta : TT} {va : VTT} (ha : SimT K c Wx ta va) : SimT K c Wx (tNot ta) (vNotT va) := by
  intro f Hb env σ H Q QX Q' R q px k
  exact ha f Hb env σ H _ QX _ R q px fun b env1 H1 Hb1 s1 R1 q1 => k _ _ _ _ s1 R1 q1
theorem vw_and1 {a : Expr} {ta : TT} {va : VTT} {pos : Pos} (h : VTe X c Wx a ta va) : VW X c Wx (.BoolOp .And [a] pos) ta va := ⟨pw_and1 h.pt, h.sim⟩
theorem vw_or1 {a : Expr} {ta : TT} {va : VTT} {pos : Pos} (h : VTe X c Wx a ta va) : VW X c Wx (.BoolOp .Or [a] pos) ta va := ⟨pw_or1 h.pt, h.sim⟩
theorem vw_and {a b : Expr} {rest : List Expr} {ta tb : TT} {va vb : VTT} {pos : Pos} (ha : VTe X c Wx a ta va) (hb : VW X c Wx (.BoolOp .And (b :: rest) pos) tb vb) : VW X c Wx (.BoolOp .And (a :: b :: rest) pos) (tAnd ta tb) (vAndT va vb) := ⟨pw_and ha.pt hb.pw, sim_andT ha.sim hb.sim⟩
theorem vw_or {a b : Expr} {rest : List Expr} {ta tb : TT} {va vb : VTT} {pos : Pos} (ha : VTe X c Wx a ta va) (hb : VW X c Wx (.BoolOp .Or (b :: rest) pos) tb vb) : VW X c Wx (.BoolOp .Or (a :: b :: rest) pos) (tOr ta tb) (vOrT va vb) := ⟨pw_or ha.pt hb.pw, sim_orT ha.sim hb.sim⟩
theorem VW.vt {e : Expr} {ta : TT} {va : VTT} (h : VW X c Wx e ta va) : VTe X c Wx e ta va := ⟨h.pw.pt, h.sim⟩
theorem vt_not {a : Expr} {ta : TT} {va : VTT} {pos : Pos} (h : VTe X c Wx a ta va) : VTe X c Wx (.UnaryOp .Not a pos) (tNot ta) (vNotT va) := ⟨pt_not h.pt, sim_notT h.sim⟩
def asB (w : W) (k : Bool → Prop) : Prop := match w with
  | .val (.bl b) => k b
  | _ => False
@[simp] theorem asB_bl {b : Bool} {k : Bool → Prop} : asB (.val (.bl b)) k = k b := rfl
theorem asB_of {w : W} {k : Bool → Prop} (h : asB w k) : ∃ b, w = .val (.bl b) ∧ k b := by
  unfold asB at h
  split at h
  · exact ⟨_, rfl, h⟩
  · exact h.elim
@[simp] def vAndV (a b : VT) : VT := fun env Q QX => a env (fun w env1 => asB w fun k => if k = true then b env1 Q QX else Q (.val (.bl false)) env1) QX
@[simp] def vOrV (a b : VT) : VT := fun env Q QX => a env (fun w env1 => asB w fun k => if k = true then Q (.val (.bl true)) env1 else b env1 Q QX) QX
@[simp] def vNotV (a : VT) : VT := fun env Q QX => a env (fun w env1 => asB w fun k => Q (.val (.bl (!k))) env1) QX
theorem ve_one {op : BoolOp} {a : Expr} {ta : TE} {va : VT} {pos : Pos} (h : VE X c Wx a ta va) : VE X c Wx (.BoolOp op [a] pos) ta va := ⟨pe_one h.pe, h.sim⟩
theorem ve_and {a b : Expr} {rest : List Expr} {ta tb : TE} {va vb : VT} {pos : Pos} (ha : VE X c Wx a ta va) (hb : VE X c Wx (.BoolOp .And (b :: rest) pos) tb vb) : VE X c Wx (.BoolOp .And (a :: b :: rest) pos) (tAndV ta tb) (vAndV va vb) := by
  refine ⟨pe_and ha.pe hb.pe, fun f Hb env σ H Q QX Q' R q px k => ?_⟩
  refine ha.sim f Hb env σ H _ QX _ R q px fun w1 env1 v1 H1 Hb1 s1 R1 r1 q1 => ?_
  obtain ⟨b, rfl, q0⟩ := asB_of q1
  cases r1
  refine ⟨b, rfl, ?_⟩
  cases b with
  | true =>
    rw [if_pos rfl] at q0 ⊢
    exact hb.sim f Hb1 env1 σ H1 Q QX Q' R1 q0 (px.mn s1) fun w env2 v H2 Hb2 s2 R2 r2 q2 => k w env2 v H2 Hb2 (s1.trans s2) R2 r2 q2
  | false =>
    rw [if_neg Bool.false_ne_true] at q0 ⊢
    exact k (.val (.bl false)) _ _ _ _ s1 R1 (.bl false) q0
theorem ve_or {a b : Expr} {rest : List Expr} {ta tb : TE} {va vb : VT} {pos : Pos} (ha : VE X c Wx a ta va) (hb : VE X c Wx (.BoolOp .Or (b :: rest) pos) tb vb) : VE X c Wx (.BoolOp .Or (a :: b :: rest) pos) (tOrV ta tb) (vOrV va vb) := by
  refine ⟨pe_or ha.pe hb.pe, fun f Hb env σ H Q QX Q' R q px k => ?_⟩
  refine ha.sim f Hb env σ H _ QX _ R q px fun w1 env1 v1 H1 Hb1 s1 R1 r1 q1 => ?_
  obtain ⟨b, rfl, q0⟩ := asB_of q1
  cases r1
  refine ⟨b, rfl, ?_⟩
  cases b with
  | true =>
    rw [if_pos rfl] at q0 ⊢
    exact k (.val (.bl true)) _ _ _ _ s1 R1 (.bl true) q0
  | false =>
    rw [if_neg Bool.false_ne_true] at q0 ⊢
    exact hb.sim f Hb1 env1 σ H1 Q QX Q' R1 q0 (px.mn s1) fun w env2 v H2 Hb2 s2 R2 r2 q2 => k w env2 v H2 Hb2 (s1.trans s2) R2 r2 q2
theorem ve_not {a : Expr} {ta : TE} {va : VT} {pos : Pos} (ha : VE X c Wx a ta va) : VE X c Wx (.UnaryOp .Not a pos) (tNotV ta) (vNotV va) := by
  refine ⟨pe_not ha.pe, fun f Hb env σ H Q QX Q' R q px k => ?_⟩
  refine ha.sim f Hb env σ H _ QX _ R q px fun w1 env1 v1 H1 Hb1 s1 R1 r1 q1 => ?_
  obtain ⟨b, rfl, q0⟩ := asB_of q1
  cases r1
  exact ⟨b, rfl, k (.val (.bl _)) _ _ _ _ s1 R1 (.bl _) q0⟩
@[simp] def vIf (t : VTT) (a b : VT) : VT := fun env Q QX => t env (fun k env1 => if k = true then a env1 Q QX else b env1 Q QX) QX
theorem ve_if {t a b : Expr} {tt : TT} {ta tb : TE} {vt : VTT} {va vb : VT} {pos : Pos} (ht : VTe X c Wx t tt vt) (ha : VE X c Wx a ta va) (hb : VE X c Wx b tb vb) : VE X c Wx (.IfExp t a b pos) (tIf tt ta tb) (vIf vt va vb) := by
  refine ⟨pe_ifExp ht.pt ha.pe hb.pe, fun f Hb env σ H Q QX Q' R q px k => ?_⟩
  refine ht.sim f Hb env σ H _ QX _ R q px fun b env1 H1 Hb1 s1 R1 q1 => ?_
  cases b with
  | true =>
    rw [if_pos rfl] at q1 ⊢
    exact ha.sim f Hb1 env1 σ H1 Q QX Q' R1 q1 (px.mn s1) fun w env2 v H2 Hb2 s2 R2 r2 q2 => k w env2 v H2 Hb2 (s1.trans s2) R2 r2 q2
  | false =>
    rw [if_neg Bool.false_ne_true] at q1 ⊢
    exact hb.sim f Hb1 env1 σ H1 Q QX Q' R1 q1 (px.mn s1) fun w env2 v H2 Hb2 s2 R2 r2 q2 => k w env2 v H2 Hb2 (s1.trans s2) R2 r2 q2
@[simp] def vNil : VTA := fun env Q _ => Q [] env
@[simp] def vCons (ta : VT) (tr : VTA) : VTA := fun env Q QX => ta env (fun w env1 => tr env1 (fun ws env2 => Q (fzv w :: ws) env2) QX) QX
theorem va_nil : VA X c Wx [] tNil vNil := ⟨pa_nil, fun f Hb env σ H Q QX Q' R q px k => k _ _ _ _ _ (Same.refl _) R .nil q⟩
theorem va_cons {e : Expr} {es : List Expr} {te : TE} {t : TA} {ve : VT} {v : VTA} (h : VE X c Wx e te ve) (hr : VA X c Wx es t v) (hs : starEach (e :: es) X.env = (false, eval e X.env) :: starEach es X.env := by rfl) : VA X c Wx (e :: es) (tCons te t) (vCons ve v) := by
  refine ⟨pa_cons h.pe hr.pa hs, fun f Hb env σ H Q QX Q' R q px k => ?_⟩
  refine h.sim f Hb env σ H _ QX _ R q px fun w1 env1 v1 H1 Hb1 s1 R1 r1 q1 => ?_
  obtain ⟨Hb1', s1', R1', r1'⟩ := R1.fzv r1
  exact hr.sim f Hb1' env1 σ H1 _ QX _ R1' q1 (px.mn (s1.trans s1')) fun ws env2 vs H2 Hb2 s2 R2 r2 q2 => k _ _ _ _ _ ((s1.trans s1').trans s2) R2 (.cons (r1'.mn s2) r2) q2
@[simp] def fzs : List W → Env → (List D → Env → Prop) → Prop
  | [], env, k => k [] env
  | w :: ws, env, k => fz w env fun d env1 => fzs ws env1 fun ds env2 => k (d :: ds) env2
theorem Rl.fzs {f : Fm} {σ : L2.St} {H : Hp} : ∀ {ws : List W} {vs : List V} {Hb : Hp} {env : Env} {k : List D → Env → Prop}, Rl K c f Hb env σ H → RSs K Hb σ ws vs → fzs ws env k → ∃ ds env' Hb', Same Hb Hb' ∧ Rl K c f Hb' env' σ H ∧ RpL K Hb' ds vs ∧ k ds env'
  | [], _, Hb, env, k, R, h, q => by cases h; exact ⟨[], env, Hb, Same.refl _, R, .nil, q⟩
  | w :: ws, _, Hb, env, k, R, h, q => by
    cases h with
    | cons a r =>
      obtain ⟨d, env1, Hb1, s1, R1, p1, q1⟩ := R.fz (RS.rw a) q
      obtain ⟨ds, env2, Hb2, s2, R2, p2, q2⟩ := Rl.fzs R1 (RSs.mn r s1) q1
      exact ⟨d :: ds, env2, Hb2, s1.trans s2, R2, .cons (p1.mn s2) p2, q2⟩
theorem Rl.newL {f : Fm} {Hb H : Hp} {env : Env} {σ : L2.St} {p : Addr} {ds : List D} {vs : List V} (R : Rl K c f Hb env σ H) (np : H p = none) (r : RpL K Hb ds vs) : Rl K c f Hb env σ (upd H p (.lst vs)) ∧ RW K f Hb env σ (upd H p (.lst vs)) (.tmp (.lst ds)) (.ref p) :=
  ⟨R.ext (ExtH.newT R.sub np), R.ro (RO.lstN R.sub np r)⟩
@[simp] def vTup (t : VTA) : VT := fun env Q QX => t env (fun ws env1 => fzs ws env1 fun ds env2 => ds.length ≤ sizeLine ∧ Q (.val (.tup ds)) env2) QX
@[simp] def vLst (t : VTA) : VT := fun env Q QX => t env (fun ws env1 => fzs ws env1 fun ds env2 => ds.length ≤ sizeLine ∧ Q (.tmp (.lst ds)) env2) QX
theorem ve_tup {es : List Expr} {t : TA} {v : VTA} {x1 : Nat} {pos : Pos} (h : VA X c Wx es t v) : VE X c Wx (.Tuple es x1 pos) (tTupN t) (vTup v) := by
  refine ⟨pe_tupN h.pa, fun f Hb env σ H Q QX Q' R q px k => ?_⟩
  refine h.sim f Hb env σ H _ QX _ R q px fun ws env1 vs H1 Hb1 s1 R1 r1 q1 => ?_
  obtain ⟨ds, env2, Hb2, s2, R2, p2, hz, q2⟩ := R1.fzs r1 q1
  refine ⟨by rw [p2.length]; exact hz, fun p o np zz => ?_⟩
  have x : ExtH Hb2 H1 (upd Hb2 p (.frz o (.tup vs))) (upd H1 p (.frz o (.tup vs))) := ExtH.new R2.sub np
  exact k (.val (.tup ds)) _ _ _ _ ((s1.trans s2).trans x.b) (R2.ext x) (Rp.tupN R2.sub np zz p2) q2
theorem ve_lst {es : List Expr} {t : TA} {v : VTA} {pos : Pos} (h : VA X c Wx es t v) : VE X c Wx (.List es pos) (tLst t) (vLst v) := by
  refine ⟨pe_lst h.pa, fun f Hb env σ H Q QX Q' R q px k => ?_⟩
  refine h.sim f Hb env σ H _ QX _ R q px fun ws env1 vs H1 Hb1 s1 R1 r1 q1 => ?_
  obtain ⟨ds, env2, Hb2, s2, R2, p2, hz, q2⟩ := R1.fzs r1 q1
  refine ⟨by rw [p2.length]; exact hz, fun p np => ?_⟩
  have x : ExtH Hb2 H1 Hb2 (upd H1 p (.lst vs)) := ExtH.newT R2.sub np
  have R3 := R2.ext x
  exact k (.tmp (.lst ds)) _ _ _ _ (s1.trans s2) R3 (R2.ro (RO.lstN R2.sub np p2)) q2
theorem atI_rel {Hb : Hp} {ds : List D} {vs : List V} {i : Int} {d : D} (h : RpL K Hb ds vs) (e : atI ds i = some d) : ∃ v, atI vs i = some v ∧ Rp K Hb d v := by
  unfold atI at e ⊢
  rw [h.length]
  cases q : ixN ds.length i with
  | none => rw [q] at e; cases e
  | some j => rw [q] at e; exact h.get e
@[simp] def dIx : G2
  | .lst ds, .int i, Q => ∃ d, atI ds i = some d ∧ Q (.val d)
  | .tup ds, .int i, Q => ∃ d, atI ds i = some d ∧ Q (.val d)
  | .scr ds, .int i, Q => ∃ d, atI ds i = some d ∧ Q (.val d)
  | .str z, .int i, Q => z.length ≤ sizeLine ∧ ∃ n, atI z.cps.toList i = some n ∧ Q (.val (.str ⟨#[n]⟩))
  | _, _, _ => False
theorem ops_ix : OpS K (rIx K) dIx := by
  intro Hb H d1 d2 v1 v2 Q Q' s r1 r2 g k
  unfold dIx at g
  split at g
  · cases r2
    obtain ⟨d, e, g⟩ := g
    cases r1 with
    | lst s1 p1 =>
      obtain ⟨v, e', p⟩ := atI_rel p1 e
      exact .inl ⟨_, _, _, _, rfl, rfl, .of s1, e', k (.val d) _ _ _ (.refl s) p g⟩
  · cases r2
    obtain ⟨d, e, g⟩ := g
    cases r1 with
    | tup s1 p1 =>
      obtain ⟨v, e', p⟩ := atI_rel p1 e
      exact .inr (.inl ⟨_, _, _, _, rfl, rfl, same_seqT s s1.1, e', k (.val d) _ _ _ (.refl s) p g⟩)
  · cases r2
    obtain ⟨d, e, g⟩ := g
    cases r1 with
    | scr s1 p1 =>
      obtain ⟨v, e', p⟩ := atI_rel p1 e
      exact .inl ⟨_, _, _, _, rfl, rfl, s1, e', k (.val d) _ _ _ (.refl s) p g⟩
  · cases r1; cases r2
    obtain ⟨hz, n, e, g⟩ := g
    exact .inr (.inr ⟨_, _, _, rfl, rfl, hz, e, k (.val (.str _)) _ _ _ (.refl s) (.str _) g⟩)
  · exact g.elim
theorem ve_ix {a b : Expr} {ta tb : TE} {va vb : VT} {pos : Pos} (ha : VE X c Wx a ta va) (hb : VE X c Wx b tb vb) (hs : PlainIx b := by intro _ _; rfl) : VE X c Wx (.Subscript a b pos) (tOp (rIx X.K) ta tb) (vOp dIx va vb) :=
  ⟨pe_ix ix_seq ha.pe hb.pe hs, sim_op ops_ix ha.sim hb.sim⟩
abbrev VTO := Env → (Option Int → Env → Prop) → VX → Prop
def SimO (K : PySem.W.Frag) (c : VC) (Wx : WX) (te : TO) (t : VTO) : Prop := ∀ (f : Fm) (Hb : Hp) (env : Env) (σ : L2.St) (H : Hp) (Q : Option Int → Env → Prop) (QX : VX) (Q' : Option Int → Hp → Prop), Rl K c f Hb env σ H → t env Q QX → PX K c f Wx Hb σ QX →
  (∀ b env' H' Hb', Same Hb Hb' → Rl K c f Hb' env' σ H' → Q b env' → Q' b H') → te σ H Q'
structure VO (X : Cx) (c : VC) (Wx : WX) (e : Option Expr) (te : TO) (t : VTO) : Prop where
  po : PO X e te
  sim : SimO X.K c Wx te t
@[simp] def vNoPart : VTO := fun env Q _ => Q none env
@[simp] def vPart (t : VT) : VTO := fun env Q QX => t env (fun w env1 => match w with
  | .val (.int i) => Q (some i) env1
  | _ => False) QX
theorem vo_none : VO X c Wx none tNoPart vNoPart := ⟨po_none, fun f Hb env σ H Q QX Q' R q px k => k _ _ _ _ (Same.refl _) R q⟩
theorem vo_some {e : Expr} {te : TE} {t : VT} (h : VE X c Wx e te t) : VO X c Wx (some e) (tPart te) (vPart t) := by
  refine ⟨po_some h.pe, fun f Hb env σ H Q QX Q' R q px k => ?_⟩
  refine h.sim f Hb env σ H _ QX _ R q px fun w1 env1 v1 H1 Hb1 s1 R1 r1 q1 => ?_
  split at q1
  · cases r1
    exact ⟨_, rfl, k _ _ _ _ s1 R1 q1⟩
  · exact q1.elim
def cutD (xs : List D) (lo hi : Option Int) : List D := (xs.drop (HT.sIx xs.length 0 lo)).take (HT.sIx xs.length xs.length hi - HT.sIx xs.length 0 lo)
theorem cut_rel {Hb : Hp} {ds : List D} {vs : List V} {lo hi : Option Int} (h : RpL K Hb ds vs) : RpL K Hb (cutD ds lo hi) (cutV vs lo hi) := by
  unfold cutD cutV
  rw [h.length]
  exact (h.drop _).take _
theorem cutV_whole {vs : List V} {lo hi : Option Int} (h : HT.sIx vs.length 0 lo = 0 ∧ HT.sIx vs.length vs.length hi = vs.length) : cutV vs lo hi = vs := by
  unfold cutV
  rw [h.1, h.2]
  simp
@[simp] def dSl (d : D) (lo hi : Option Int) (Q : W → Prop) : Prop := match d with
  | .lst ds => Q (.tmp (.lst (cutD ds lo hi)))
  | .tup ds => Q (.val (.tup (cutD ds lo hi)))
  | .str z => z.length ≤ sizeLine ∧ Q (.val (.str (cutS z lo hi)))
  | _ => False
@[simp] def vSl (te : VT) (tl th : VTO) : VT := fun env Q QX => te env (fun w env1 => tl env1 (fun lo env2 => th env2 (fun hi env3 => rd (fzv w) env3 fun d => dSl d lo hi fun w' => Q w' env3) QX) QX) QX
abbrev rSlAll (K : PySem.W.Frag) : V → Option Int → Option Int → Hp → VK → Prop := fun x lo hi H Q => rSlL K x lo hi H Q ∨ (rSlN K x lo hi H Q ∨ rSlS x lo hi H Q)
theorem SlR.or {r r' : V → Option Int → Option Int → Hp → VK → Prop} (h : SlR X r) (h' : SlR X r') : SlR X (fun x lo hi H Q => r x lo hi H Q ∨ r' x lo hi H Q) := by
  intro pins s σ H x v vl vu lo hi sl Q I rx hs pl pu q
  rcases q with q | q
  · exact h pins s σ H x v vl vu lo hi sl Q I rx hs pl pu q
  · exact h' pins s σ H x v vl vu lo hi sl Q I rx hs pl pu q
theorem ve_sl {e : Expr} {lo hi : Option Expr} {te : TE} {tl th : TO} {ve : VT} {vl vh : VTO} {pos p2 : Pos} (he : VE X c Wx e te ve) (hl : VO X c Wx lo tl vl) (hh : VO X c Wx hi th vh) : VE X c Wx (.Subscript e (.Slice lo hi none p2) pos) (tSl (rSlAll X.K) te tl th) (vSl ve vl vh) := by
  refine ⟨pe_slice (SlR.or sl_list (SlR.or sl_tupN sl_str)) he.pe hl.po hh.po, fun f Hb env σ H Q QX Q' R q px k => ?_⟩
  refine he.sim f Hb env σ H _ QX _ R q px fun w1 env1 v1 H1 Hb1 s1 R1 r1 q1 => ?_
  obtain ⟨Hb1', s1', R1', r1'⟩ := R1.fzv r1
  refine hl.sim f Hb1' env1 σ H1 _ QX _ R1' q1 (px.mn (s1.trans s1')) fun lo env2 H2 Hb2 s2 R2 q2 => ?_
  refine hh.sim f Hb2 env2 σ H2 _ QX _ R2 q2 (px.mn ((s1.trans s1').trans s2)) fun hi env3 H3 Hb3 s3 R3 q3 => ?_
  obtain ⟨d, e1, q3⟩ := rd_of q3
  have rr := R3.rd (RS.rw ((r1'.mn s2).mn s3)) e1
  have ss := ((s1.trans s1').trans s2).trans s3
  unfold dSl at q3
  split at q3
  · cases rr with
    | lst s4 p4 =>
      refine .inl ⟨_, _, rfl, .of s4, fun p np => ?_⟩
      obtain ⟨R4, ro⟩ := R3.newL np (cut_rel (lo := lo) (hi := hi) p4)
      exact k (.tmp (.lst _)) _ _ _ _ ss R4 ro q3
  · cases rr with
    | tup s4 p4 =>
      refine .inr (.inl ⟨_, _, rfl, same_seqT R3.sub s4.1, fun hw => ?_, fun hw p o np zz => ?_⟩)
      · have z := cut_rel (lo := lo) (hi := hi) p4
        rw [cutV_whole hw] at z
        exact k (.val (.tup _)) _ _ _ _ ss R3 (.tup s4 z) q3
      · have ro := Rp.tupN R3.sub np zz (cut_rel (lo := lo) (hi := hi) p4)
        exact k (.val (.tup _)) _ _ _ _ (ss.trans (ExtH.new R3.sub np).b) (R3.ext (ExtH.new R3.sub np)) ro q3
  · cases rr
    exact .inr (.inr ⟨_, rfl, q3.1, k (.val (.str _)) _ _ _ _ ss R3 (.str _) q3.2⟩)
  · exact q3.elim
@[simp] def rds : List W → Env → (List D → Prop) → Prop
  | [], _, k => k []
  | w :: ws, env, k => rd w env fun d => rds ws env fun ds => k (d :: ds)
theorem Rl.rds {f : Fm} {σ : L2.St} {H Hb : Hp} {env : Env} (R : Rl K c f Hb env σ H) : ∀ {ws : List W} {vs : List V} {k : List D → Prop}, RSs K Hb σ ws vs → rds ws env k → ∃ ds, Paired (RR K Hb H) ds vs ∧ k ds
  | [], _, k, h, q => by cases h; exact ⟨[], .nil, q⟩
  | w :: ws, _, k, h, q => by
    cases h with
    | cons a r =>
      obtain ⟨d, e, q⟩ := rd_of q
      obtain ⟨ds, p, q⟩ := Rl.rds R r q
      exact ⟨d :: ds, .cons (R.rd (RS.rw a) e) p, q⟩
abbrev GN := List D → (W → Prop) → Prop
def CallS (K : PySem.W.Frag) (r : List V → Hp → VK → Prop) (g : GN) : Prop := ∀ (Hb H : Hp) (ds : List D) (vs : List V) (Q : W → Prop) (Q' : VK), Same Hb H → Paired (RR K Hb H) ds vs → g ds Q →
  (∀ w v H' Hb', ExtH Hb H Hb' H' → RO K Hb' H H' w v → Q w → Q' v H') → r vs H Q'
@[simp] def vCB (g : GN) (t : VTA) : VT := fun env Q QX => t env (fun ws env1 => rds ws env1 fun ds => g ds fun w => Q w env1) QX
theorem sim_cb {r : List V → Hp → VK → Prop} {g : GN} {t : TA} {v : VTA} (hs : CallS K r g) (h : SimA K c Wx t v) : SimE K c Wx (tCB r t) (vCB g v) := by
  intro f Hb env σ H Q QX Q' R q px k
  refine h f Hb env σ H _ QX _ R q px fun ws env1 vs H1 Hb1 s1 R1 r1 q1 => ?_
  obtain ⟨ds, p, q1⟩ := R1.rds r1 q1
  exact hs Hb1 H1 ds vs _ Q' R1.sub p q1 fun w v H' Hb' x ro qw => k w env1 v H' Hb' (s1.trans x.b) (R1.ext x) (R1.ro ro) qw
theorem ve_callB {id : String} {x : Str} {r : List V → Hp → VK → Prop} {g : GN} {e : Expr} {es : List Expr} {t : TA} {v : VTA} {p pos : Pos} (hc : CallR X (.builtin id) r) (hs : CallS X.K r g) (hm : X.mg x = none) (hv : bootBuiltins x = some (.builtin id)) (ha : VA X c Wx (e :: es) t v) (hg : Gl X x := by rfl) (hn : x ≠ "__name__" := by decide) (hdb : (x == ("__debug__" : Str)) = false := by decide)
    (he : starEach (e :: es) X.env = (false, eval e X.env) :: starEach es X.env := by rfl) (hpl : (backTo pos (starEach es X.env)).any (·.1) = false := by rfl) : VE X c Wx (.Call (.Name x p) (e :: es) [] pos) (tCB r t) (vCB g v) :=
  ⟨pe_callB hc hg hm hv ha.pa hn hdb he hpl, sim_cb hs ha.sim⟩
theorem ve_callTy {T : String} {x : Str} {r : List V → Hp → VK → Prop} {g : GN} {e : Expr} {es : List Expr} {t : TA} {v : VTA} {p pos : Pos} (hc : CallR X (.type T) r) (hs : CallS X.K r g) (hm : X.mg x = none) (hv : bootBuiltins x = some (.type T)) (ha : VA X c Wx (e :: es) t v) (hg : Gl X x := by rfl) (hn : x ≠ "__name__" := by decide) (hdb : (x == ("__debug__" : Str)) = false := by decide)
    (he : starEach (e :: es) X.env = (false, eval e X.env) :: starEach es X.env := by rfl) (hpl : (backTo pos (starEach es X.env)).any (·.1) = false := by rfl) : VE X c Wx (.Call (.Name x p) (e :: es) [] pos) (tCB r t) (vCB g v) :=
  ⟨pe_callTy hc hg hm hv ha.pa hn hdb he hpl, sim_cb hs ha.sim⟩
@[simp] def dLen : GN
  | [.lst ds], Q => Q (.val (.int ds.length))
  | [.tup ds], Q => Q (.val (.int ds.length))
  | [.scr ds], Q => Q (.val (.int ds.length))
  | [.str z], Q => z.length ≤ sizeLine ∧ Q (.val (.int z.length))
  | _, _ => False
theorem paired1 {α β : Type} {F : α → β → Prop} {a : α} {bs : List β} (h : Paired F [a] bs) : ∃ b, bs = [b] ∧ F a b := by
  cases h with
  | cons p r => cases r; exact ⟨_, rfl, p⟩
theorem paired2 {α β : Type} {F : α → β → Prop} {a a' : α} {bs : List β} (h : Paired F [a, a'] bs) : ∃ b b', bs = [b, b'] ∧ F a b ∧ F a' b' := by
  cases h with
  | cons p r => obtain ⟨b, rfl, q⟩ := paired1 r; exact ⟨_, _, rfl, p, q⟩
theorem calls_len : CallS K (fun xs H Q => ∃ x n, xs = [x] ∧ LenV K x H n ∧ Q (.int n) H) dLen := by
  intro Hb H ds vs Q Q' s p g k
  unfold dLen at g
  split at g
  · obtain ⟨v, rfl, r⟩ := paired1 p
    cases r with
    | lst s1 p1 => exact ⟨_, _, rfl, .inl ⟨_, .of s1, p1.length.symm⟩, k (.val (.int _)) _ _ _ (.refl s) (.int _) g⟩
  · obtain ⟨v, rfl, r⟩ := paired1 p
    cases r with
    | tup s1 p1 => exact ⟨_, _, rfl, .inr ⟨_, same_seqT s s1.1, p1.length.symm⟩, k (.val (.int _)) _ _ _ (.refl s) (.int _) g⟩
  · obtain ⟨v, rfl, r⟩ := paired1 p
    cases r with
    | scr s1 p1 => exact ⟨_, _, rfl, .inl ⟨_, s1, p1.length.symm⟩, k (.val (.int _)) _ _ _ (.refl s) (.int _) g⟩
  · obtain ⟨v, rfl, r⟩ := paired1 p
    cases r
    exact ⟨_, _, rfl, ⟨g.1, rfl⟩, k (.val (.int _)) _ _ _ (.refl s) (.int _) g.2⟩
  · exact g.elim
@[simp] def dInt : GN
  | [.int i], Q => Q (.val (.int i))
  | [.bl b], Q => Q (.val (.int (if b then 1 else 0)))
  | [.str z], Q => ∃ n, PySem.intText? z = some n ∧ z.length ≤ 640 ∧ Q (.val (.int n))
  | _, _ => False
abbrev rIntA : List V → Hp → VK → Prop := fun xs H Q => ((∃ i, xs = [.int i] ∧ Q (.int i) H) ∨ ∃ k, xs = [.bl k] ∧ Q (.int (if k then 1 else 0)) H) ∨ ∃ a n, xs = [.str a] ∧ PySem.intText? a = some n ∧ a.length ≤ 640 ∧ Q (.int n) H
theorem CallR.or {f : Value} {r r' : List V → Hp → VK → Prop} (h : CallR X f r) (h' : CallR X f r') : CallR X f (fun xs H Q => r xs H Q ∨ r' xs H Q) := by
  intro pins s σ H xs us Q I rx q
  rcases q with q | q
  · exact h pins s σ H xs us Q I rx q
  · exact h' pins s σ H xs us Q I rx q
theorem calls_int : CallS K rIntA dInt := by
  intro Hb H ds vs Q Q' s p g k
  unfold dInt at g
  split at g
  · obtain ⟨v, rfl, r⟩ := paired1 p
    cases r
    exact .inl (.inl ⟨_, rfl, k (.val (.int _)) _ _ _ (.refl s) (.int _) g⟩)
  · obtain ⟨v, rfl, r⟩ := paired1 p
    cases r
    exact .inl (.inr ⟨_, rfl, k (.val (.int _)) _ _ _ (.refl s) (.int _) g⟩)
  · obtain ⟨v, rfl, r⟩ := paired1 p
    cases r
    obtain ⟨n, e, hz, g⟩ := g
    exact .inr ⟨_, _, rfl, e, hz, k (.val (.int _)) _ _ _ (.refl s) (.int _) g⟩
  · exact g.elim
@[simp] def dAbs : GN
  | [.int i], Q => Q (.val (.int (if i < 0 then -i else i)))
  | _, _ => False
@[simp] def dMax2 : GN
  | [.int i, .int j], Q => Q (.val (.int (if j > i then j else i)))
  | _, _ => False
@[simp] def dMin2 : GN
  | [.int i, .int j], Q => Q (.val (.int (if j < i then j else i)))
  | _, _ => False
theorem calls_min2 : CallS K (fun xs H Q => ∃ i j, xs = [.int i, .int j] ∧ Q (.int (if j < i then j else i)) H) dMin2 := by
  intro Hb H ds vs Q Q' s p g k
  unfold dMin2 at g
  split at g
  · obtain ⟨v, v', rfl, r, r'⟩ := paired2 p
    cases r; cases r'
    exact ⟨_, _, rfl, k (.val (.int _)) _ _ _ (.refl s) (.int _) g⟩
  · exact g.elim
@[simp] def dTuple : GN
  | [.lst ds], Q => Q (.val (.tup ds))
  | [.tup ds], Q => Q (.val (.tup ds))
  | _, _ => False
theorem calls_tuple : CallS K (fun xs H Q => ∃ p ys, xs = [.ref p] ∧ ((SqL K H p ys ∧ NewT H ys Q) ∨ (SqT K H p ys ∧ Q (.ref p) H))) dTuple := by
  intro Hb H ds vs Q Q' s p g k
  unfold dTuple at g
  split at g
  · obtain ⟨v, rfl, r⟩ := paired1 p
    cases r with
    | lst s1 p1 => exact ⟨_, _, rfl, .inl ⟨.of s1, fun l o nl zz => k (.val (.tup _)) _ _ _ (ExtH.new s nl) (Rp.tupN s nl zz p1) g⟩⟩
  · obtain ⟨v, rfl, r⟩ := paired1 p
    cases r with
    | tup s1 p1 => exact ⟨_, _, rfl, .inr ⟨same_seqT s s1.1, k (.val (.tup _)) _ _ _ (.refl s) (.tup s1 p1) g⟩⟩
  · exact g.elim
@[simp] def dList : GN
  | [.lst ds], Q => Q (.tmp (.lst ds))
  | [.tup ds], Q => Q (.tmp (.lst ds))
  | _, _ => False
@[simp] def dStr : GN
  | [.int i], Q => i.natAbs.log2 < 1920 ∧ Q (.val (.str (toString i)))
  | _, _ => False
theorem calls_str : CallS K (fun xs H Q => ∃ i, xs = [.int i] ∧ i.natAbs.log2 < 1920 ∧ Q (.str (toString i)) H) dStr := by
  intro Hb H ds vs Q Q' s p g k
  unfold dStr at g
  split at g
  · obtain ⟨v, rfl, r⟩ := paired1 p
    cases r
    exact ⟨_, rfl, g.1, k (.val (.str _)) _ _ _ (.refl s) (.str _) g.2⟩
  · exact g.elim
end
end VL
set_option Elab.async false
set_option linter.all false
set_option maxRecDepth 100000
set_option maxHeartbeats 4000000
namespace VL
open PySem PySem.Spec PyProof.Rows L2
variable [CM]
abbrev VSp := List M → (W → List M → Prop) → (Str → List (Str × D) → List M → Prop) → Prop
def MR (K : PySem.W.Frag) (Hb H : Hp) : M → V → Prop
  | .val d, v => Rp K Hb d v
  | .own oc, v => ∃ a, v = .ref a ∧ Hb a = none ∧ Cont K Hb H a oc
def owns : List M → List V → List Addr
  | .own _ :: ms, .ref a :: vs => a :: owns ms vs
  | _ :: ms, _ :: vs => owns ms vs
  | _, _ => []
theorem mem_owns {K : PySem.W.Frag} {Hb H : Hp} : ∀ {ms : List M} {vs : List V} {a : Addr}, Paired (MR K Hb H) ms vs → a ∈ owns ms vs → ∃ (k : Nat) (oc : OC), ms[k]? = some (.own oc) ∧ vs[k]? = some (.ref a)
  | [], _, a, h, e => by cases h; exact absurd e (by simp [owns])
  | .val d :: ms, _, a, h, e => by
    cases h with
    | cons x r =>
      rename_i v vs
      have e : a ∈ owns ms vs := by simpa [owns] using e
      obtain ⟨k, oc, h1, h2⟩ := mem_owns r e
      exact ⟨k + 1, oc, by simpa using h1, by simpa using h2⟩
  | .own oc :: ms, _, a, h, e => by
    cases h with
    | cons x r =>
      obtain ⟨b, rfl, _⟩ := x
      rcases List.mem_cons.mp e with rfl | e
      · exact ⟨0, oc, rfl, rfl⟩
      · obtain ⟨k, oc, h1, h2⟩ := mem_owns r e
        exact ⟨k + 1, oc, by simpa using h1, by simpa using h2⟩
theorem owns_mem {K : PySem.W.Frag} {Hb H : Hp} : ∀ {ms : List M} {vs : List V} {a : Addr} {k : Nat} {oc : OC}, Paired (MR K Hb H) ms vs → ms[k]? = some (.own oc) → vs[k]? = some (.ref a) → a ∈ owns ms vs
  | [], _, a, k, oc, h, e, _ => by simp at e
  | .val d :: ms, _, a, 0, oc, h, e, _ => by simp at e
  | .val d :: ms, _, a, k + 1, oc, h, e, e2 => by
    cases h with
    | cons x r =>
      rename_i v vs
      show a ∈ owns ms vs
      exact owns_mem (k := k) r (by simpa using e) (by simpa using e2)
  | .own oc0 :: ms, _, a, 0, oc, h, e, e2 => by
    cases h with
    | cons x r =>
      obtain ⟨b, rfl, _⟩ := x
      have : V.ref b = V.ref a := by simpa using e2
      cases this
      exact List.mem_cons_self
  | .own oc0 :: ms, _, a, k + 1, oc, h, e, e2 => by
    cases h with
    | cons x r =>
      obtain ⟨b, rfl, _⟩ := x
      exact List.mem_cons_of_mem _ (owns_mem (k := k) r (by simpa using e) (by simpa using e2))
def sameShape : List M → List M → Prop
  | [], [] => True
  | .val d :: ms, .val e :: os => d = e ∧ sameShape ms os
  | .own _ :: ms, .own _ :: os => sameShape ms os
  | _, _ => False
theorem shape_own : ∀ {ms os : List M} {k : Nat} {oc : OC}, sameShape ms os → ms[k]? = some (.own oc) → ∃ oc', os[k]? = some (.own oc')
  | [], _, k, oc, _, e => by simp at e
  | .val d :: ms, [], _, _, h, _ => h.elim
  | .own o :: ms, [], _, _, h, _ => h.elim
  | .val d :: ms, .val e :: os, 0, _, _, q => by simp at q
  | .val d :: ms, .own e :: os, _, _, h, _ => h.elim
  | .own d :: ms, .val e :: os, _, _, h, _ => h.elim
  | .val d :: ms, .val e :: os, k + 1, oc, h, q => by
    obtain ⟨oc', z⟩ := shape_own (k := k) h.2 (by simpa using q)
    exact ⟨oc', by simpa using z⟩
  | .own d :: ms, .own e :: os, 0, oc, h, q => ⟨e, rfl⟩
  | .own d :: ms, .own e :: os, k + 1, oc, h, q => by
    have h : sameShape ms os := h
    obtain ⟨oc', z⟩ := shape_own (k := k) h (by simpa using q)
    exact ⟨oc', by simpa using z⟩
theorem shape_own' : ∀ {ms os : List M} {k : Nat} {oc : OC}, sameShape ms os → os[k]? = some (.own oc) → ∃ oc', ms[k]? = some (.own oc')
  | [], [], k, oc, _, e => by simp at e
  | [], _ :: _, k, oc, h, e => h.elim
  | .val d :: ms, [], _, _, h, _ => h.elim
  | .own o :: ms, [], _, _, h, _ => h.elim
  | .val d :: ms, .val e :: os, 0, _, _, q => by simp at q
  | .val d :: ms, .own e :: os, _, _, h, _ => h.elim
  | .own d :: ms, .val e :: os, _, _, h, _ => h.elim
  | .val d :: ms, .val e :: os, k + 1, oc, h, q => by
    obtain ⟨oc', z⟩ := shape_own' (k := k) h.2 (by simpa using q)
    exact ⟨oc', by simpa using z⟩
  | .own d :: ms, .own e :: os, 0, oc, h, q => ⟨d, rfl⟩
  | .own d :: ms, .own e :: os, k + 1, oc, h, q => by
    have h : sameShape ms os := h
    obtain ⟨oc', z⟩ := shape_own' (k := k) h (by simpa using q)
    exact ⟨oc', by simpa using z⟩
structure Pre (K : PySem.W.Frag) (T : List Addr) (Hb : Hp) (ms : List M) (vs : List V) (H : Hp) : Prop where
  sub : Same Hb H
  args : Paired (MR K Hb H) ms vs
  nd : (owns ms vs).Nodup
  tab : ∀ P ∈ T, TabQ Hb H P ∧ Hb P = none
structure Post (K : PySem.W.Frag) (T : List Addr) (Hb : Hp) (ms : List M) (vs : List V) (H : Hp) (outs : List M) (Hb' H' : Hp) : Prop where
  b : Same Hb Hb'
  s : Same Hb' H'
  keep : ∀ a o, H a = some o → a ∉ owns ms vs → a ∉ T → H' a = some o
  n : ∀ a o, H a = some o → Hb' a = Hb a
  args : Paired (MR K Hb' H') outs vs
  shape : sameShape ms outs
  tab : ∀ P ∈ T, TabQ Hb' H' P ∧ Hb' P = none
def spOf (K : PySem.W.Frag) (T : List Addr) (sp : VSp) : Sp := fun vs H Q E => ∃ (Hb : Hp) (ms : List M) (A : W → List M → Prop) (B : Str → List (Str × D) → List M → Prop), Pre K T Hb ms vs H ∧ sp ms A B ∧
  (∀ w outs, A w outs → ∀ v H' Hb', Post K T Hb ms vs H outs Hb' H' → RO K Hb' H H' w v → Q v H') ∧
  (∀ C fs outs, B C fs outs → ∀ d H' Hb', Post K T Hb ms vs H outs Hb' H' → XR K C Hb' H' d fs → E (.ref (CM.at_ C)) d H')
def argM (w : W) (env : Env) (k : M → Prop) : Prop := match w with
  | .val d => k (.val d)
  | .cel i => match env[i]? with
    | some (some m) => k m
    | _ => False
  | .tmp _ => False
@[simp] def argMs : List W → Env → (List M → Prop) → Prop
  | [], _, k => k []
  | w :: ws, env, k => argM w env fun m => argMs ws env fun ms => k (m :: ms)
@[simp] def cels : List W → Env → List Nat
  | [], _ => []
  | .cel i :: ws, env => match env[i]? with
    | some (some (.own _)) => i :: cels ws env
    | _ => cels ws env
  | _ :: ws, env => cels ws env
@[simp] def fnd (j : Nat) : List W → List M → Option OC
  | .cel i :: ws, .own oc :: os => if i = j then some oc else fnd j ws os
  | _ :: ws, _ :: os => fnd j ws os
  | _, _ => none
@[simp] def wbA (ws : List W) (os : List M) : Nat → Env → Env
  | _, [] => []
  | j, m :: r => (match fnd j ws os with
    | some oc => some (.own oc)
    | none => m) :: wbA ws os (j + 1) r
def wb (env : Env) (ws : List W) (os : List M) : Env := wbA ws os 0 env
@[simp] theorem argM_val {d : D} {env : Env} {k : M → Prop} : argM (.val d) env k = k (.val d) := rfl
def argC (o : Option (Option M)) (k : M → Prop) : Prop := match o with
  | some (some m) => k m
  | _ => False
@[simp] theorem argC_m {m : M} {k : M → Prop} : argC (some (some m)) k = k m := rfl
@[simp] theorem argC_n {k : M → Prop} : argC (some none) k = False := rfl
@[simp] theorem argC_0 {k : M → Prop} : argC none k = False := rfl
@[simp] theorem argM_cel {i : Nat} {env : Env} {k : M → Prop} : argM (.cel i) env k = argC env[i]? k := rfl
@[simp] theorem argM_tmp {oc : OC} {env : Env} {k : M → Prop} : argM (.tmp oc) env k = False := rfl
@[simp] theorem wb_nil {env : Env} {ws : List W} : wb env ws [] = wbA ws [] 0 env := rfl
@[simp] theorem wb_cons {env : Env} {ws : List W} {o : M} {os : List M} : wb env ws (o :: os) = wbA ws (o :: os) 0 env := rfl
theorem wbA_len (ws : List W) (os : List M) : ∀ (j : Nat) (env : Env), (wbA ws os j env).length = env.length
  | _, [] => rfl
  | j, m :: r => by simp [wbA, wbA_len]
theorem wbA_get (ws : List W) (os : List M) : ∀ (j : Nat) (env : Env) (i : Nat), (wbA ws os j env)[i]? = env[i]?.map fun m => match fnd (j + i) ws os with
    | some oc => some (.own oc)
    | none => m
  | _, [], i => by simp [wbA]
  | j, m :: r, 0 => by simp [wbA]
  | j, m :: r, i + 1 => by
    simp only [wbA, List.getElem?_cons_succ]
    rw [wbA_get ws os (j + 1) r i]
    rw [show j + 1 + i = j + (i + 1) by omega]
theorem wb_get (env : Env) (ws : List W) (os : List M) (i : Nat) : (wb env ws os)[i]? = env[i]?.map fun m => match fnd i ws os with
    | some oc => some (.own oc)
    | none => m := by
  unfold wb
  rw [wbA_get, Nat.zero_add]
theorem fnd_some : ∀ {ws : List W} {os : List M} {j : Nat} {oc : OC}, fnd j ws os = some oc → ∃ k : Nat, ws[k]? = some (W.cel j) ∧ os[k]? = some (M.own oc)
  | [], _, _, _, h => by simp [fnd] at h
  | .val d :: ws, [], _, _, h => by simp [fnd] at h
  | .tmp d :: ws, [], _, _, h => by simp [fnd] at h
  | .cel d :: ws, [], _, _, h => by simp [fnd] at h
  | .val d :: ws, o :: os, j, oc, h => by
    have h : fnd j ws os = some oc := by simpa [fnd] using h
    obtain ⟨k, h1, h2⟩ := fnd_some h
    exact ⟨k + 1, by simpa using h1, by simpa using h2⟩
  | .tmp d :: ws, o :: os, j, oc, h => by
    have h : fnd j ws os = some oc := by simpa [fnd] using h
    obtain ⟨k, h1, h2⟩ := fnd_some h
    exact ⟨k + 1, by simpa using h1, by simpa using h2⟩
  | .cel i :: ws, .val d :: os, j, oc, h => by
    have h : fnd j ws os = some oc := by simpa [fnd] using h
    obtain ⟨k, h1, h2⟩ := fnd_some h
    exact ⟨k + 1, by simpa using h1, by simpa using h2⟩
  | .cel i :: ws, .own o :: os, j, oc, h => by
    unfold fnd at h
    split at h
    · rename_i e
      subst e
      cases h
      exact ⟨0, rfl, rfl⟩
    · obtain ⟨k, h1, h2⟩ := fnd_some h
      exact ⟨k + 1, by simpa using h1, by simpa using h2⟩
theorem fnd_none : ∀ {ws : List W} {os : List M} {j k : Nat} {oc : OC}, fnd j ws os = none → ws[k]? = some (.cel j) → os[k]? = some (.own oc) → False
  | [], _, _, _, _, _, h, _ => by simp at h
  | _ :: _, [], _, _, _, _, _, h => by simp at h
  | .cel i :: ws, .own o :: os, j, 0, oc, h, e, e2 => by
    have : i = j := by simpa using e
    simp [fnd, this] at h
  | .cel i :: ws, .own o :: os, j, k + 1, oc, h, e, e2 => by
    unfold fnd at h
    split at h
    · cases h
    · exact fnd_none (k := k) h (by simpa using e) (by simpa using e2)
  | .val d :: ws, o :: os, j, 0, oc, h, e, e2 => by simp at e
  | .tmp d :: ws, o :: os, j, 0, oc, h, e, e2 => by simp at e
  | .cel d :: ws, .val o :: os, j, 0, oc, h, e, e2 => by simp at e2
  | .val d :: ws, o :: os, j, k + 1, oc, h, e, e2 => fnd_none (k := k) (by simpa [fnd] using h) (by simpa using e) (by simpa using e2)
  | .tmp d :: ws, o :: os, j, k + 1, oc, h, e, e2 => fnd_none (k := k) (by simpa [fnd] using h) (by simpa using e) (by simpa using e2)
  | .cel d :: ws, .val o :: os, j, k + 1, oc, h, e, e2 => fnd_none (k := k) (by simpa [fnd] using h) (by simpa using e) (by simpa using e2)
section
variable {K : PySem.W.Frag} {c : VC} {Wx : WX} {X : Cx}
structure ArgsOk (K : PySem.W.Frag) (f : Fm) (Hb H : Hp) (env : Env) (σ : L2.St) (ws : List W) (ms : List M) (vs : List V) : Prop where
  rel : Paired (MR K Hb H) ms vs
  own : ∀ (k : Nat) (oc : OC), ms[k]? = some (.own oc) → ∃ i, ws[k]? = some (.cel i) ∧ env[i]? = some (some (.own oc)) ∧ σ[i]? = vs[k]?.map some
  cel : ∀ (k i : Nat) (oc : OC), ws[k]? = some (.cel i) → env[i]? = some (some (.own oc)) → ms[k]? = some (.own oc)
  sub : ∀ a ∈ owns ms vs, ∃ i ∈ cels ws env, σ[i]? = some (some (.ref a))
  nd : (cels ws env).Nodup → (owns ms vs).Nodup
theorem mem_cels : ∀ {ws : List W} {env : Env} {i : Nat}, i ∈ cels ws env → ∃ oc, env[i]? = some (some (.own oc))
  | [], _, _, h => by simp [cels] at h
  | .val d :: ws, env, i, h => mem_cels (ws := ws) (by simpa [cels] using h)
  | .tmp d :: ws, env, i, h => mem_cels (ws := ws) (by simpa [cels] using h)
  | .cel j :: ws, env, i, h => by
    unfold cels at h
    split at h
    · rename_i oc e
      rcases List.mem_cons.mp h with rfl | h
      · exact ⟨oc, e⟩
      · exact mem_cels h
    · exact mem_cels h
theorem Rl.argMs {f : Fm} {Hb H : Hp} {env : Env} {σ : L2.St} (R : Rl K c f Hb env σ H) : ∀ {ws : List W} {vs : List V} {k : List M → Prop}, RSs K Hb σ ws vs → argMs ws env k → ∃ ms, ArgsOk K f Hb H env σ ws ms vs ∧ k ms
  | [], _, k, h, q => by
    cases h
    exact ⟨[], ⟨.nil, fun k oc e => by simp at e, fun k i oc e => by simp at e, fun a e => by simp [owns] at e, fun _ => List.nodup_nil⟩, q⟩
  | w :: ws, _, k, h, q => by
    cases h with
    | cons x r =>
      rename_i v vs
      unfold VL.argMs argM at q
      cases w with
      | val d =>
        obtain ⟨ms, a, q⟩ := Rl.argMs R r q
        refine ⟨.val d :: ms, ⟨.cons x a.rel, fun k oc e => ?_, fun k i oc e e2 => ?_, fun b e => a.sub b (by simpa [owns] using e), fun n => a.nd (by simpa [cels] using n)⟩, q⟩
        · cases k with
          | zero => simp at e
          | succ k =>
            obtain ⟨i, h1, h2, h3⟩ := a.own k oc (by simpa using e)
            exact ⟨i, by simpa using h1, h2, by simpa using h3⟩
        · cases k with
          | zero => simp at e
          | succ k => simpa using a.cel k i oc (by simpa using e) e2
      | tmp d => exact x.elim
      | cel i =>
        have x : σ[i]? = some (some v) := x
        dsimp only at q
        split at q
        · rename_i m hm
          obtain ⟨ms, a, q⟩ := Rl.argMs R r q
          cases m with
          | val d =>
            obtain ⟨v', h1, h2⟩ := R.val hm
            rw [x] at h1; cases h1
            refine ⟨.val d :: ms, ⟨.cons h2 a.rel, fun k oc e => ?_, fun k j oc e e2 => ?_, fun b e => ?_, fun n => a.nd (by simpa [cels, hm] using n)⟩, q⟩
            · cases k with
              | zero => simp at e
              | succ k =>
                obtain ⟨i, h1, h2, h3⟩ := a.own k oc (by simpa using e)
                exact ⟨i, by simpa using h1, h2, by simpa using h3⟩
            · cases k with
              | zero =>
                have : i = j := by simpa using e
                subst this
                rw [hm] at e2; cases e2
              | succ k => simpa using a.cel k j oc (by simpa using e) e2
            · obtain ⟨j, h1, h2⟩ := a.sub b (by simpa [owns] using e)
              exact ⟨j, by simp only [cels, hm]; exact h1, h2⟩
          | own oc =>
            obtain ⟨b, h1, h2, h3, h4⟩ := R.own hm
            rw [x] at h1; cases h1
            refine ⟨.own oc :: ms, ⟨.cons ⟨b, rfl, h2, h4⟩ a.rel, fun k oc' e => ?_, fun k j oc' e e2 => ?_, fun b' e => ?_, fun n => ?_⟩, q⟩
            · cases k with
              | zero =>
                have : oc = oc' := by simpa using e
                subst this
                exact ⟨i, rfl, hm, by simpa using x⟩
              | succ k =>
                obtain ⟨i, h1, h2, h3⟩ := a.own k oc' (by simpa using e)
                exact ⟨i, by simpa using h1, h2, by simpa using h3⟩
            · cases k with
              | zero =>
                have : i = j := by simpa using e
                subst this
                rw [hm] at e2; cases e2; rfl
              | succ k => simpa using a.cel k j oc' (by simpa using e) e2
            · have e : b' ∈ b :: owns ms vs := e
              rcases List.mem_cons.mp e with rfl | e
              · exact ⟨i, by simp only [cels, hm]; exact List.mem_cons_self, x⟩
              · obtain ⟨j, h1, h2⟩ := a.sub b' e
                exact ⟨j, by simp only [cels, hm]; exact List.mem_cons_of_mem _ h1, h2⟩
            · have n : (i :: cels ws env).Nodup := by simpa [cels, hm] using n
              obtain ⟨n1, n2⟩ := List.nodup_cons.mp n
              show (b :: owns ms vs).Nodup
              refine List.nodup_cons.mpr ⟨fun z => ?_, a.nd n2⟩
              obtain ⟨j, z1, z2⟩ := a.sub b z
              obtain ⟨oc', e'⟩ := mem_cels z1
              have := R.inj hm e' x z2
              subst this
              exact n1 z1
        · exact q.elim
theorem Rl.post {f : Fm} {Hb H Hb' H' : Hp} {env : Env} {σ : L2.St} {ws : List W} {ms outs : List M} {vs : List V} (R : Rl K c f Hb env σ H) (a : ArgsOk K f Hb H env σ ws ms vs) (p : Post K c.T Hb ms vs H outs Hb' H') : Rl K c f Hb' (wb env ws outs) σ H' := by
  have notO : ∀ {b : Addr}, f.Fr b ≠ none → b ∉ owns ms vs := fun {b} hb z => by
    obtain ⟨i, hi, e⟩ := a.sub b z
    obtain ⟨oc, e'⟩ := mem_cels hi
    obtain ⟨b', h1, _, h2, _⟩ := R.own e'
    rw [e] at h1; cases h1
    exact hb h2
  have slot : ∀ {i : Nat} {oc : OC}, (wb env ws outs)[i]? = some (some (.own oc)) → ∃ oc0, env[i]? = some (some (.own oc0)) ∧ ((∃ k : Nat, ws[k]? = some (W.cel i) ∧ ms[k]? = some (M.own oc0) ∧ outs[k]? = some (M.own oc)) ∨ (oc = oc0 ∧ ∀ k : Nat, ws[k]? ≠ some (W.cel i))) := fun {i oc} e => by
    rw [wb_get] at e
    cases hE : env[i]? with
    | none => rw [hE] at e; cases e
    | some m =>
      rw [hE] at e
      have e : (match fnd i ws outs with | some oc => some (M.own oc) | none => m) = some (.own oc) := by simpa using e
      cases hf : fnd i ws outs with
      | none =>
        rw [hf] at e
        have e : m = some (.own oc) := e
        subst e
        refine ⟨oc, rfl, .inr ⟨rfl, fun k z => ?_⟩⟩
        have h1 := a.cel k i oc z hE
        obtain ⟨oc', h2⟩ := shape_own p.shape h1
        exact fnd_none hf z h2
      | some oc' =>
        rw [hf] at e
        have e : some (M.own oc') = some (.own oc) := e
        cases e
        obtain ⟨k, h1, h2⟩ := fnd_some hf
        obtain ⟨oc0, h3⟩ := shape_own' p.shape h2
        obtain ⟨i', h4, h5, h6⟩ := a.own k oc0 h3
        rw [h1] at h4; cases h4
        rw [hE] at h5
        cases h5
        exact ⟨oc0, rfl, .inl ⟨k, h1, h3, h2⟩⟩
  have valS : ∀ {i : Nat} {d : D}, (wb env ws outs)[i]? = some (some (.val d)) → env[i]? = some (some (.val d)) := fun {i d} e => by
    rw [wb_get] at e
    cases hE : env[i]? with
    | none => rw [hE] at e; cases e
    | some m =>
      rw [hE] at e
      have e : (match fnd i ws outs with | some oc => some (M.own oc) | none => m) = some (.val d) := by simpa using e
      cases hf : fnd i ws outs with
      | none => rw [hf] at e; exact congrArg some e
      | some oc' => rw [hf] at e; cases e
  have paired_get : ∀ {ms : List M} {vs : List V} {k : Nat} {m : M} {Hx Hy : Hp}, Paired (MR K Hx Hy) ms vs → ms[k]? = some m → ∃ v, vs[k]? = some v ∧ MR K Hx Hy m v := by
    intro ms
    induction ms with
    | nil => intro vs k m Hx Hy h e; simp at e
    | cons m0 ms ih =>
      intro vs k m Hx Hy h e
      cases h with
      | cons x r =>
        cases k with
        | zero => have : m0 = m := by simpa using e
                  subst this; exact ⟨_, rfl, x⟩
        | succ k =>
          obtain ⟨v, h1, h2⟩ := ih r (k := k) (by simpa using e)
          exact ⟨v, by simpa using h1, h2⟩
  refine ⟨by unfold wb; rw [wbA_len]; exact R.len, fun {i d} e => ?_, fun {i oc} e => ?_, fun {i j o1 o2 b} e1 e2 e3 e4 => ?_, p.s, fun b o e => ?_, fun b o e => ?_, fun P hP => ?_, R.fix, R.xv.mn p.b⟩
  · obtain ⟨v, h1, h2⟩ := R.val (valS e)
    exact ⟨v, h1, h2.mn p.b⟩
  · obtain ⟨oc0, hE, h⟩ := slot e
    obtain ⟨b, h1, h2, h3, h4⟩ := R.own hE
    rcases h with ⟨k, k1, k2, k3⟩ | ⟨rfl, hno⟩
    · obtain ⟨i', j1, j2, j3⟩ := a.own k oc0 k2
      rw [k1] at j1; cases j1
      obtain ⟨v, hv, b', rfl, q1, q2⟩ := paired_get p.args k3
      rw [hv, h1] at j3
      have j3 : V.ref b = V.ref b' := by simpa using j3
      cases j3
      exact ⟨b, h1, q1, h3, q2⟩
    · obtain ⟨o, ho⟩ := h4.there
      have nb : b ∉ owns ms vs := fun z => by
        obtain ⟨k, oc', z1, z2⟩ := mem_owns a.rel z
        obtain ⟨i', z3, z4, z5⟩ := a.own k oc' z1
        rw [z2] at z5
        have := R.inj hE z4 h1 (by simpa using z5)
        subst this
        exact hno k z3
      have nT : b ∉ c.T := fun z => h4.notab (R.tab b z).1.g rfl
      exact ⟨b, h1, by rw [p.n b o ho]; exact h2, h3, h4.mn p.b fun o' q => p.keep _ _ q nb nT⟩
  · obtain ⟨x1, y1, _⟩ := slot e1
    obtain ⟨x2, y2, _⟩ := slot e2
    exact R.inj y1 y2 e3 e4
  · refine p.keep b o (R.frm b o e) (notO (by rw [e]; simp)) fun z => ?_
    have := (R.tab b z).2.2
    rw [e] at this; cases this
  · rw [p.n b o (R.frm b o e)]
    exact R.frb b o e
  · obtain ⟨h1, h2⟩ := p.tab P hP
    exact ⟨h1, h2, (R.tab P hP).2.2⟩
@[simp] def vCall (sp : VSp) (t : VTA) : VT := fun env Q QX => t env (fun ws env1 => argMs ws env1 fun ms => (cels ws env1).Nodup ∧ sp ms (fun w outs => Q w (wb env1 ws outs)) fun C fs outs => QX C fs (wb env1 ws outs)) QX
theorem ro_rw {f : Fm} {Hb H Hb' H' : Hp} {env env' : Env} {σ : L2.St} {w : W} {v : V} (R : Rl K c f Hb env σ H) (R' : Rl K c f Hb' env' σ H') (hs : ∀ (i : Nat) (oc : OC), env'[i]? = some (some (.own oc)) → ∃ oc', env[i]? = some (some (.own oc'))) (h : RO K Hb' H H' w v) : RW K f Hb' env' σ H' w v := by
  cases w with
  | val d => exact h
  | cel i => exact h.elim
  | tmp oc =>
    obtain ⟨a, e, h1, h2, h3⟩ := h
    refine ⟨a, e, h1, R.frm.free h2, h3, fun i oc' hi q => ?_⟩
    obtain ⟨oc2, hi2⟩ := hs i oc' hi
    obtain ⟨a', q', _, _, h4⟩ := R.own hi2
    rw [q] at q'; cases q'
    obtain ⟨o, ho⟩ := h4.there
    rw [h2] at ho; cases ho
theorem wb_own {env : Env} {ws : List W} {ms outs : List M} {f : Fm} {Hb H : Hp} {σ : L2.St} {vs : List V} (a : ArgsOk K f Hb H env σ ws ms vs) (sh : sameShape ms outs) (i : Nat) (oc : OC) (e : (wb env ws outs)[i]? = some (some (.own oc))) : ∃ oc', env[i]? = some (some (.own oc')) := by
  rw [wb_get] at e
  cases hE : env[i]? with
  | none => rw [hE] at e; cases e
  | some m =>
    rw [hE] at e
    have e : (match fnd i ws outs with | some oc => some (M.own oc) | none => m) = some (.own oc) := by simpa using e
    cases hf : fnd i ws outs with
    | none => rw [hf] at e; exact ⟨oc, congrArg some e⟩
    | some oc' =>
      obtain ⟨k, h1, h2⟩ := fnd_some hf
      obtain ⟨oc0, h3⟩ := shape_own' sh h2
      obtain ⟨i', h4, h5, h6⟩ := a.own k oc0 h3
      rw [h1] at h4; cases h4
      rw [hE] at h5
      exact ⟨oc0, h5⟩
theorem sp_run {f : Fm} {Hb H : Hp} {env : Env} {σ : L2.St} {ws : List W} {vs : List V} {sp : VSp} {Q : VQ} {QX : VX} {Q' : VK} (R : Rl K c f Hb env σ H) (r : RSs K Hb σ ws vs)
    (q : argMs ws env fun ms => (cels ws env).Nodup ∧ sp ms (fun w outs => Q w (wb env ws outs)) fun C fs outs => QX C fs (wb env ws outs))
    (px : PX K c f Wx Hb σ QX) (k : ∀ w env' v H' Hb', Same Hb Hb' → Rl K c f Hb' env' σ H' → RW K f Hb' env' σ H' w v → Q w env' → Q' v H') : spOf K c.T sp vs H Q' (fun cls d H' => Wx cls d σ H') := by
  obtain ⟨ms, a, nd, q⟩ := R.argMs r q
  refine ⟨Hb, ms, _, _, ⟨R.sub, a.rel, a.nd nd, fun P hP => ⟨(R.tab P hP).1, (R.tab P hP).2.1⟩⟩, q, fun w outs qw v H' Hb' p ro => ?_, fun C fs outs qx d H' Hb' p xr => ?_⟩
  · have R' := R.post a p
    exact k w _ v H' Hb' p.b R' (ro_rw R R' (wb_own a p.shape) ro) qw
  · exact px C fs _ d H' Hb' p.b (R.post a p) xr qx
theorem ve_call {CX : CXT} {k : Nat} {fa : Addr} {fd : FuncData} {ps : List Str} {sp : VSp} {x : Str} {p pos : Pos} {e : Expr} {es : List Expr} {t : TA} {v : VTA} (F : FnOk X.prog X.w X.K X.mg X.base CX k fa fd ps (spOf X.K c.T sp)) (hr : Room k X.A) (hm : X.mg x = some (.ref fa)) (hk : PySem.W.keepIn X.K (.ref fa) = true) (hb : Binds X.K fd ps []) (hx : ∀ σ, PassesAt CX X σ (WE Wx σ))
    (ha : VA X c Wx (e :: es) t v) (hg : Gl X x := by rfl) (hdb : (x == ("__debug__" : Str)) = false := by decide) (he : starEach (e :: es) X.env = (false, eval e X.env) :: starEach es X.env := by rfl) (hpl : (backTo pos (starEach es X.env)).any (·.1) = false := by rfl) :
    VE X c Wx (.Call (.Name x p) (e :: es) [] pos) (tCallSD (spOf X.K c.T sp) [] (WE Wx) t) (vCall sp v) := by
  refine ⟨pe_callSD F hr hg hm hk hb .nil hx ha.pa hdb he hpl, fun f Hb env σ H Q QX Q' R q px k => ?_⟩
  refine ha.sim f Hb env σ H _ QX _ R q px fun ws env1 vs H1 Hb1 s1 R1 r1 q1 => ?_
  show spOf X.K c.T sp (vs ++ []) H1 Q' (WE Wx σ)
  rw [List.append_nil]
  exact sp_run R1 r1 q1 (px.mn s1) fun w env' v H' Hb' s2 R2 rw q2 => k w env' v H' Hb' (s1.trans s2) R2 rw q2
end
end VL
set_option Elab.async false
set_option linter.all false
set_option maxRecDepth 100000
set_option maxHeartbeats 4000000
namespace VL
open PySem PySem.Spec PyProof.Rows L2
variable [CM]
structure VEnds where
  nx : Env → Prop
  rt : W → Env → Prop
  bk : Env → Prop
  ct : Env → Prop
  ex : VX
abbrev VS := VEnds → Env → Prop
structure EndsR (K : PySem.W.Frag) (c : VC) (f : Fm) (Wx : WX) (Hb : Hp) (DV : VEnds) (D : Ends) : Prop where
  nx : ∀ env' σ' H' Hb', Same Hb Hb' → Rl K c f Hb' env' σ' H' → DV.nx env' → D.nx σ' H'
  rt : ∀ w env' v σ' H' Hb', Same Hb Hb' → Rl K c f Hb' env' σ' H' → RW K f Hb' env' σ' H' w v → DV.rt w env' → D.rt v H'
  bk : ∀ env' σ' H' Hb', Same Hb Hb' → Rl K c f Hb' env' σ' H' → DV.bk env' → D.bk σ' H'
  ct : ∀ env' σ' H' Hb', Same Hb Hb' → Rl K c f Hb' env' σ' H' → DV.ct env' → D.ct σ' H'
  ex : ∀ C fs env' d σ' H' Hb', Same Hb Hb' → Rl K c f Hb' env' σ' H' → XR K C Hb' H' d fs → DV.ex C fs env' → Wx (.ref (CM.at_ C)) d σ' H'
theorem EndsR.mn {K : PySem.W.Frag} {c : VC} {f : Fm} {Wx : WX} {Hb Hb' : Hp} {DV : VEnds} {D : Ends} (h : EndsR K c f Wx Hb DV D) (s : Same Hb Hb') : EndsR K c f Wx Hb' DV D :=
  ⟨fun e a b d t => h.nx e a b d (s.trans t), fun w e v a b d t => h.rt w e v a b d (s.trans t), fun e a b d t => h.bk e a b d (s.trans t), fun e a b d t => h.ct e a b d (s.trans t), fun C fs e d a b x t => h.ex C fs e d a b x (s.trans t)⟩
theorem EndsR.px {K : PySem.W.Frag} {c : VC} {f : Fm} {Wx : WX} {Hb : Hp} {DV : VEnds} {D : Ends} (h : EndsR K c f Wx Hb DV D) {σ : L2.St} : PX K c f Wx Hb σ DV.ex :=
  fun C fs env' d H' Hb' s R x q => h.ex C fs env' d σ H' Hb' s R x q
def SimS (K : PySem.W.Frag) (c : VC) (Wx : WX) (ts : TS) (t : VS) : Prop := ∀ (f : Fm) (Hb : Hp) (env : Env) (σ : L2.St) (H : Hp) (DV : VEnds) (D : Ends), Rl K c f Hb env σ H → t DV env → EndsR K c f Wx Hb DV D → ts D σ H
structure VSt (X : Cx) (c : VC) (Wx : WX) (st : Stmt) (ts : TS) (t : VS) : Prop where
  ps : PS X st ts
  sim : SimS X.K c Wx ts t
structure VSs (X : Cx) (c : VC) (Wx : WX) (st : List Stmt) (ts : TS) (t : VS) : Prop where
  ps : PSs X st ts
  sim : SimS X.K c Wx ts t
section
variable {K : PySem.W.Frag} {c : VC} {Wx : WX} {X : Cx}
@[simp] def vNext : VS := fun DV env => DV.nx env
@[simp] def vSeq (t u : VS) : VS := fun DV env => t { DV with nx := u DV } env
theorem vss_nil : VSs X c Wx [] tNext vNext := ⟨pss_nil, fun f Hb env σ H DV D R q e => e.nx _ _ _ _ (Same.refl _) R q⟩
theorem vss_one {st : Stmt} {ts : TS} {t : VS} (h : VSt X c Wx st ts t) : VSs X c Wx [st] ts t := ⟨pss_one h.ps, h.sim⟩
theorem vss_cons {st : Stmt} {rest : List Stmt} {ts us : TS} {t u : VS} (h : VSt X c Wx st ts t) (g : VSs X c Wx rest us u) : VSs X c Wx (st :: rest) (tSeq ts us) (vSeq t u) := by
  refine ⟨pss_cons h.ps g.ps, fun f Hb env σ H DV D R q e => ?_⟩
  refine h.sim f Hb env σ H { DV with nx := u DV } { D with nx := us D } R q ⟨fun env' σ' H' Hb' s R' q' => ?_, e.rt, e.bk, e.ct, e.ex⟩
  exact g.sim f Hb' env' σ' H' DV D R' q' (e.mn s)
abbrev VG := D → Env → (Env → Prop) → Prop
abbrev VGs := List D → Env → (Env → Prop) → Prop
def Outside (ss : List Nat) (σ σ' : L2.St) : Prop := σ'.length = σ.length ∧ ∀ j : Nat, j ∉ ss → σ'[j]? = σ[j]?
theorem Outside.refl (ss : List Nat) (σ : L2.St) : Outside ss σ σ := ⟨rfl, fun _ _ => rfl⟩
def SimG (K : PySem.W.Frag) (c : VC) (ss : List Nat) (g : TG) (vg : VG) : Prop := ∀ (f : Fm) (Hb : Hp) (env : Env) (σ : L2.St) (H : Hp) (d : D) (v : V) (Q : Env → Prop) (Q' : L2.St → Hp → Prop), Rl K c f Hb env σ H → Rp K Hb d v → vg d env Q →
  (∀ env' σ' H' Hb', Same Hb Hb' → Rl K c f Hb' env' σ' H' → Outside ss σ σ' → Q env' → Q' σ' H') → g v σ H Q'
def SimGs (K : PySem.W.Frag) (c : VC) (ss : List Nat) (g : TGs) (vg : VGs) : Prop := ∀ (f : Fm) (Hb : Hp) (env : Env) (σ : L2.St) (H : Hp) (ds : List D) (vs : List V) (Q : Env → Prop) (Q' : L2.St → Hp → Prop), Rl K c f Hb env σ H → RpL K Hb ds vs → vg ds env Q →
  (∀ env' σ' H' Hb', Same Hb Hb' → Rl K c f Hb' env' σ' H' → Outside ss σ σ' → Q env' → Q' σ' H') → g vs σ H Q'
structure VGt (X : Cx) (c : VC) (ss : List Nat) (tg : Expr) (g : TG) (vg : VG) : Prop where
  pg : PG X tg g
  sim : SimG X.K c ss g vg
structure VGts (X : Cx) (c : VC) (ss : List Nat) (tg : List Expr) (g : TGs) (vg : VGs) : Prop where
  pg : PGs X tg g
  sim : SimGs X.K c ss g vg
@[simp] def vgName (c : VC) (i : Nat) : VG := fun d env Q => i ∉ c.fx ∧ Q (env.set i (some (.val d)))
theorem Rl.setVal {f : Fm} {Hb H : Hp} {env : Env} {σ : L2.St} {i : Nat} {d : D} {v : V} (R : Rl K c f Hb env σ H) (h : Rp K Hb d v) (hi : i ∉ c.fx) : Rl K c f Hb (env.set i (some (.val d))) (σ.set i (some v)) H := by
  refine ⟨by simpa using R.len, fun {j d'} e => ?_, fun {j oc'} e => ?_, fun {j k o1 o2 b} e1 e2 e3 e4 => ?_, R.sub, R.frm, R.frb, R.tab, fun j hj => ?_, R.xv⟩
  · rcases set_get e with ⟨ee, e2⟩ | ⟨ne, e2⟩
    · cases e2
      subst ee
      have hl : i < σ.length := by
        have := (List.getElem?_eq_some_iff.mp e).1
        rw [List.length_set] at this
        rw [R.len]; exact this
      exact ⟨v, by rw [List.getElem?_set_self hl], h⟩
    · obtain ⟨v', h1, h2⟩ := R.val e2
      exact ⟨v', by rw [List.getElem?_set_ne ne]; exact h1, h2⟩
  · rcases set_get e with ⟨_, e2⟩ | ⟨ne, e2⟩
    · cases e2
    · obtain ⟨a, h1, h2⟩ := R.own e2
      exact ⟨a, by rw [List.getElem?_set_ne ne]; exact h1, h2⟩
  · rcases set_get e1 with ⟨_, e1⟩ | ⟨ne1, e1⟩
    · cases e1
    · rcases set_get e2 with ⟨_, e2⟩ | ⟨ne2, e2⟩
      · cases e2
      · rw [List.getElem?_set_ne ne1] at e3
        rw [List.getElem?_set_ne ne2] at e4
        exact R.inj e1 e2 e3 e4
  · rw [List.getElem?_set_ne (fun z : i = j => hi (z.symm ▸ hj))]
    exact R.fix j hj
theorem Rl.setOwn {f : Fm} {Hb H : Hp} {env : Env} {σ : L2.St} {i : Nat} {oc : OC} {v : V} (R : Rl K c f Hb env σ H) (h : RW K f Hb env σ H (.tmp oc) v) (hi : i ∉ c.fx) : Rl K c f Hb (env.set i (some (.own oc))) (σ.set i (some v)) H := by
  obtain ⟨a, rfl, h1, h2, h3, h4⟩ := h
  refine ⟨by simpa using R.len, fun {j d'} e => ?_, fun {j oc'} e => ?_, fun {j k o1 o2 b} e1 e2 e3 e4 => ?_, R.sub, R.frm, R.frb, R.tab, fun j hj => ?_, R.xv⟩
  · rcases set_get e with ⟨_, e2⟩ | ⟨ne, e2⟩
    · cases e2
    · obtain ⟨v', h1, h2⟩ := R.val e2
      exact ⟨v', by rw [List.getElem?_set_ne ne]; exact h1, h2⟩
  · rcases set_get e with ⟨ee, e2⟩ | ⟨ne, e2⟩
    · cases e2
      subst ee
      have hl : i < σ.length := by
        have := (List.getElem?_eq_some_iff.mp e).1
        rw [List.length_set] at this
        rw [R.len]; exact this
      exact ⟨a, by rw [List.getElem?_set_self hl], h1, h2, h3⟩
    · obtain ⟨a, h1, h2⟩ := R.own e2
      exact ⟨a, by rw [List.getElem?_set_ne ne]; exact h1, h2⟩
  · have hlen : ∀ {z : Option M}, (env.set i z)[i]? ≠ none → i < σ.length := fun {z} hz => by
      have := (List.getElem?_eq_some_iff.mp (Option.isSome_iff_exists.mp (Option.isSome_iff_ne_none.mpr hz)).choose_spec).1
      rw [List.length_set] at this
      rw [R.len]; exact this
    rcases set_get e1 with ⟨r1, e1'⟩ | ⟨ne1, e1'⟩
    · rcases set_get e2 with ⟨r2, e2'⟩ | ⟨ne2, e2'⟩
      · exact r1.symm.trans r2
      · subst r1
        have hl := hlen (z := some (.own oc)) (by rw [e1]; simp)
        rw [List.getElem?_set_self hl] at e3
        rw [List.getElem?_set_ne ne2] at e4
        cases e3
        exact (h4 _ _ e2' e4).elim
    · rcases set_get e2 with ⟨r2, e2'⟩ | ⟨ne2, e2'⟩
      · subst r2
        have hl := hlen (z := some (.own oc)) (by rw [e2]; simp)
        rw [List.getElem?_set_self hl] at e4
        rw [List.getElem?_set_ne ne1] at e3
        cases e4
        exact (h4 _ _ e1' e3).elim
      · rw [List.getElem?_set_ne ne1] at e3
        rw [List.getElem?_set_ne ne2] at e4
        exact R.inj e1' e2' e3 e4
  · rw [List.getElem?_set_ne (fun z : i = j => hi (z.symm ▸ hj))]
    exact R.fix j hj
theorem vg_name {x : Str} {pos : Pos} (i : Nat) (nd : X.N.Nodup) (hi : X.N[i]? = some x := by rfl) (hl : L2.Loc X.env.scope x := by first | exact Or.inl rfl | exact Or.inr rfl) (hf : X.fn x = true ∨ X.env.scope.names.lookup x = some .local := by first | exact .inl rfl | exact .inr rfl) : VGt X c [i] (.Name x pos) (gName i) (vgName c i) :=
  ⟨pg_name nd hi hl hf, fun f Hb env σ H d v Q Q' R h q k => k _ _ _ _ (Same.refl _) (R.setVal h q.1) ⟨List.length_set, fun j hj => List.getElem?_set_ne (fun z => hj (by rw [z]; exact List.mem_singleton.mpr rfl))⟩ q.2⟩
@[simp] def vgNil : VGs := fun ds env Q => ds = [] ∧ Q env
@[simp] def vgCons (g : VG) (u : VGs) : VGs := fun ds env Q => match ds with
  | d :: r => g d env fun env1 => u r env1 Q
  | [] => False
@[simp] def vgTup (n : Nat) (u : VGs) : VG := fun d env Q => match d with
  | .tup ds => ds.length = n ∧ u ds env Q
  | _ => False
@[simp] def vgSub (to ti : VT) : VG := fun d env Q => to env (fun w1 env1 => ti env1 (fun w2 env2 => match w1, w2 with
  | .cel j, .val (.int i) => match env2[j]? with
    | some (some (.own (.lst ds))) => ∃ n, ixN ds.length i = some n ∧ Q (env2.set j (some (.own (.lst (ds.set n d)))))
    | _ => False
  | _, _ => False) fun _ _ _ => False) fun _ _ _ => False
theorem Rl.write {f : Fm} {Hb H : Hp} {env : Env} {σ : L2.St} {j : Nat} {ds es : List D} {vs : List V} {a : Addr} (R : Rl K c f Hb env σ H) (hj : env[j]? = some (some (.own (.lst ds)))) (hs : σ[j]? = some (some (.ref a))) (r : RpL K Hb es vs) : Rl K c f Hb (env.set j (some (.own (.lst es)))) σ (upd H a (.lst vs)) := by
  obtain ⟨a', h1, h2, h3, h4⟩ := R.own hj
  rw [hs] at h1; cases h1
  refine ⟨by simpa using R.len, fun {i d} e => ?_, fun {i oc} e => ?_, fun {i k o1 o2 b} e1 e2 e3 e4 => ?_, fun b o e => ?_, fun b o e => ?_, R.frb, fun P hP => ?_, R.fix, R.xv⟩
  · rcases set_get e with ⟨_, e2⟩ | ⟨ne, e2⟩
    · cases e2
    · exact R.val e2
  · rcases set_get e with ⟨ee, e2⟩ | ⟨ne, e2⟩
    · cases e2
      subst ee
      exact ⟨a, hs, h2, h3, vs, upd_same, r⟩
    · obtain ⟨b, g1, g2, g3, g4⟩ := R.own e2
      have nb : b ≠ a := by
        rintro rfl
        exact ne (R.inj hj e2 hs g1)
      exact ⟨b, g1, g2, g3, g4.mn (Same.refl _) fun o q => by rw [upd_ne nb]; exact q⟩
  · have own : ∀ {k : Nat} {o : OC}, (env.set j (some (.own (.lst es))))[k]? = some (some (.own o)) → ∃ o', env[k]? = some (some (.own o')) := fun {k o} e => by
      rcases set_get e with ⟨ee, e2⟩ | ⟨ne, e2⟩
      · subst ee; exact ⟨_, hj⟩
      · exact ⟨_, e2⟩
    obtain ⟨_, y1⟩ := own e1
    obtain ⟨_, y2⟩ := own e2
    exact R.inj y1 y2 e3 e4
  · rw [upd_ne (ne_of_none e h2)]; exact R.sub _ _ e
  · rw [upd_ne (ne_of_none e h3)]; exact R.frm _ _ e
  · obtain ⟨t1, t2, t3⟩ := R.tab P hP
    obtain ⟨ps, e, z⟩ := id t1
    exact ⟨⟨ps, by rw [upd_ne (h4.notab t1.g)]; exact e, z⟩, t2, t3⟩
theorem vg_sub {o i : Expr} {to ti : TE} {vo vi : VT} {pos : Pos} (ho : VE X c Wx o to vo) (hi : VE X c Wx i ti vi)
    (ha : ∀ v, assign (.Subscript o i pos) X.env v = (do
      let ov ← holding [v] (eval o X.env)
      let iv ← holding [v, ov] (eval i X.env)
      standAt pos
      holding [v, ov, iv] (setItem ov iv v)
      release [v, ov, iv] []) := by intro _; rfl) : VGt X c [] (.Subscript o i pos) (gSub to ti rSetL) (vgSub vo vi) := by
  refine ⟨pg_sub ho.pe hi.pe set_list ha, fun f Hb env σ H d v Q Q' R h q k => ?_⟩
  have px : ∀ Hb, PX X.K c f Wx Hb σ fun _ _ _ => False := fun Hb C fs env' d H' Hb' s R x z => z.elim
  refine ho.sim f Hb env σ H _ _ _ R q (px _) fun w1 env1 v1 H1 Hb1 s1 R1 r1 q1 => ?_
  refine hi.sim f Hb1 env1 σ H1 _ _ _ R1 q1 (px _) fun w2 env2 v2 H2 Hb2 s2 R2 r2 q2 => ?_
  split at q2
  · rename_i j i
    split at q2
    · rename_i ds hj
      obtain ⟨n, hn, q2⟩ := q2
      have r1 : σ[j]? = some (some v1) := r1
      obtain ⟨a, h1, h2, h3, vs, ha, hr⟩ := R2.own hj
      rw [r1] at h1; cases h1
      cases r2
      refine ⟨a, vs, _, n, rfl, rfl, ha, by rw [hr.length]; exact hn, ?_⟩
      exact k _ _ _ _ (s1.trans s2) (R2.write hj r1 (hr.set n (h.mn (s1.trans s2)))) (.refl _ _) q2
    · exact q2.elim
  · exact q2.elim
@[simp] def vAsg (t : VT) (g : VG) : VS := fun DV env => t env (fun w env1 => fz w env1 fun d env2 => g d env2 DV.nx) DV.ex
theorem vst_asg {tg e : Expr} {te : TE} {t : VT} {g : TG} {vg : VG} {pos : Pos} {ss : List Nat} (he : VE X c Wx e te t) (hg : VGt X c ss tg g vg) (hs : swapsWithSole [tg] e pos.line X.env = pure false := by rfl) (hw : swappedStores [tg] e X.env = pure none := by rfl)
    (h1 : (assignEach [tg] X.env).map (·.2) = [assign tg X.env] := by rfl) : VSt X c Wx (.Assign [tg] e pos) (tAsg te g) (vAsg t vg) := by
  refine ⟨ps_asg he.pe hg.pg hs hw h1, fun f Hb env σ H DV D R q e => ?_⟩
  refine he.sim f Hb env σ H _ _ _ R q e.px fun w1 env1 v1 H1 Hb1 s1 R1 r1 q1 => ?_
  obtain ⟨d, env2, Hb2, s2, R2, r2, q2⟩ := R1.fz r1 q1
  exact hg.sim f Hb2 env2 σ H1 d v1 _ _ R2 r2 q2 fun env3 σ3 H3 Hb3 s3 R3 _ q3 => e.nx _ _ _ _ ((s1.trans s2).trans s3) R3 q3
@[simp] def vOwn (c : VC) (i : Nat) (t : VT) : VS := fun DV env => t env (fun w env1 => i ∉ c.fx ∧ match w with
  | .tmp oc => DV.nx (env1.set i (some (.own oc)))
  | .val d => DV.nx (env1.set i (some (.val d)))
  | .cel _ => False) DV.ex
theorem vst_own {x : Str} {e : Expr} {te : TE} {t : VT} {pos pos' : Pos} (i : Nat) (nd : X.N.Nodup) (he : VE X c Wx e te t) (hi : X.N[i]? = some x := by rfl) (hl : L2.Loc X.env.scope x := by first | exact Or.inl rfl | exact Or.inr rfl) (hs : swapsWith e (some (.Name x pos')) pos.line X.env = pure false := by rfl) (hf : X.fn x = true ∨ X.env.scope.names.lookup x = some .local := by first | exact .inl rfl | exact .inr rfl) :
    VSt X c Wx (.Assign [.Name x pos'] e pos) (tAsg te (gName i)) (vOwn c i t) := by
  refine ⟨ps_set nd hi hl he.pe hs hf, fun f Hb env σ H DV D R q e => ?_⟩
  refine he.sim f Hb env σ H _ _ _ R q e.px fun w1 env1 v1 H1 Hb1 s1 R1 r1 q1 => ?_
  obtain ⟨hi, q1⟩ := q1
  cases w1 with
  | tmp oc => exact e.nx _ _ _ _ s1 (R1.setOwn r1 hi) q1
  | val d => exact e.nx _ _ _ _ s1 (R1.setVal r1 hi) q1
  | cel j => exact q1.elim
@[simp] def vSet (c : VC) (i : Nat) (t : VT) : VS := fun DV env => t env (fun w env1 => i ∉ c.fx ∧ fz w env1 fun d env2 => DV.nx (env2.set i (some (.val d)))) DV.ex
theorem vst_set {x : Str} {e : Expr} {te : TE} {t : VT} {pos pos' : Pos} (i : Nat) (nd : X.N.Nodup) (he : VE X c Wx e te t) (hi : X.N[i]? = some x := by rfl) (hl : L2.Loc X.env.scope x := by first | exact Or.inl rfl | exact Or.inr rfl) (hs : swapsWith e (some (.Name x pos')) pos.line X.env = pure false := by rfl) (hf : X.fn x = true ∨ X.env.scope.names.lookup x = some .local := by first | exact .inl rfl | exact .inr rfl) :
    VSt X c Wx (.Assign [.Name x pos'] e pos) (tAsg te (gName i)) (vSet c i t) := by
  refine ⟨ps_set nd hi hl he.pe hs hf, fun f Hb env σ H DV D R q e => ?_⟩
  refine he.sim f Hb env σ H _ _ _ R q e.px fun w1 env1 v1 H1 Hb1 s1 R1 r1 q1 => ?_
  obtain ⟨hi, q1⟩ := q1
  obtain ⟨d, env2, Hb2, s2, R2, r2, q2⟩ := R1.fz r1 q1
  exact e.nx _ _ _ _ (s1.trans s2) (R2.setVal r2 hi) q2
@[simp] def vPar (c : VC) (i j : Nat) (t : VTA) : VS := fun DV env => t env (fun ws env1 => (i ∉ c.fx ∧ j ∉ c.fx) ∧ fzs ws env1 fun ds env2 => match ds with
  | [a, b] => DV.nx ((env2.set i (some (.val a))).set j (some (.val b)))
  | _ => False) DV.ex
@[simp] def vDrop (t : VT) : VS := fun DV env => t env (fun _ env1 => DV.nx env1) DV.ex
theorem vst_expr {e : Expr} {te : TE} {t : VT} {pos : Pos} (he : VE X c Wx e te t) (hs : swapsWith e none pos.line X.env = pure false := by rfl) : VSt X c Wx (.Expr e pos) (tDrop te) (vDrop t) :=
  ⟨ps_expr he.pe hs, fun f Hb env σ H DV D R q e => he.sim f Hb env σ H _ _ _ R q e.px fun w1 env1 v1 H1 Hb1 s1 R1 r1 q1 => e.nx _ _ _ _ s1 R1 q1⟩
@[simp] def vBreak : VS := fun DV env => DV.bk env
@[simp] def vCont : VS := fun DV env => DV.ct env
@[simp] def vRet (c : VC) (t : VT) : VS := fun DV env => t env (fun w env1 => match w with
  | .val d => DV.rt (.val d) env1
  | .tmp oc => DV.rt (.tmp oc) env1
  | .cel i => i ∉ c.fx ∧ match env1[i]? with
    | some (some (.own oc)) => DV.rt (.tmp oc) (env1.set i none)
    | _ => False) DV.ex
theorem Rl.unset {f : Fm} {Hb H : Hp} {env : Env} {σ : L2.St} (R : Rl K c f Hb env σ H) (i : Nat) : Rl K c f Hb (env.set i none) σ H := by
  refine ⟨by simpa using R.len, fun {j d} e => ?_, fun {j oc'} e => ?_, fun {j k o1 o2 b} e1 e2 e3 e4 => ?_, R.sub, R.frm, R.frb, R.tab, R.fix, R.xv⟩
  · rcases set_get e with ⟨_, e⟩ | ⟨_, e⟩
    · cases e
    · exact R.val e
  · rcases set_get e with ⟨_, e⟩ | ⟨_, e⟩
    · cases e
    · exact R.own e
  · rcases set_get e1 with ⟨_, e1⟩ | ⟨_, e1⟩
    · cases e1
    · rcases set_get e2 with ⟨_, e2⟩ | ⟨_, e2⟩
      · cases e2
      · exact R.inj e1 e2 e3 e4
theorem vst_ret {e : Expr} {te : TE} {t : VT} {pos : Pos} (he : VE X c Wx e te t) : VSt X c Wx (.Return (some e) pos) (tRet te) (vRet c t) := by
  refine ⟨ps_ret he.pe, fun f Hb env σ H DV D R q e => ?_⟩
  refine he.sim f Hb env σ H _ _ _ R q e.px fun w1 env1 v1 H1 Hb1 s1 R1 r1 q1 => ?_
  cases w1 with
  | val d => exact e.rt (.val d) _ _ _ _ _ s1 R1 r1 q1
  | tmp oc => exact e.rt (.tmp oc) _ _ _ _ _ s1 R1 r1 q1
  | cel i =>
    obtain ⟨hi, q1⟩ := q1
    have r1 : σ[i]? = some (some v1) := r1
    split at q1
    · rename_i oc hE
      obtain ⟨a, h1, h2, h3, h4⟩ := R1.own hE
      rw [r1] at h1; cases h1
      refine e.rt (.tmp oc) _ _ _ _ _ s1 (R1.unset i) ⟨a, rfl, h2, h3, h4, fun j oc' ej z => ?_⟩ q1
      rcases set_get ej with ⟨_, ej⟩ | ⟨ne, ej⟩
      · cases ej
      · exact ne (R1.inj hE ej r1 z)
    · exact q1.elim
@[simp] def vRetN : VS := fun DV env => DV.rt (.val .non) env
@[simp] def vIfS (t : VTT) (a b : VS) : VS := fun DV env => t env (fun k env1 => if k = true then a DV env1 else b DV env1) DV.ex
theorem vst_if {t : Expr} {a b : List Stmt} {tt : TT} {ta tb : TS} {vt : VTT} {va vb : VS} {pos : Pos} (ht : VTe X c Wx t tt vt) (ha : VSs X c Wx a ta va) (hb : VSs X c Wx b tb vb) : VSt X c Wx (.If t a b pos) (tIfS tt ta tb) (vIfS vt va vb) := by
  refine ⟨ps_if ht.pt ha.ps hb.ps, fun f Hb env σ H DV D R q e => ?_⟩
  refine ht.sim f Hb env σ H _ _ _ R q e.px fun b env1 H1 Hb1 s1 R1 q1 => ?_
  cases b with
  | true =>
    rw [if_pos rfl] at q1 ⊢
    exact ha.sim f Hb1 env1 σ H1 DV D R1 q1 (e.mn s1)
  | false =>
    rw [if_neg Bool.false_ne_true] at q1 ⊢
    exact hb.sim f Hb1 env1 σ H1 DV D R1 q1 (e.mn s1)
def vWhile (t : VTT) (b : VS) : VS := fun DV env => ∃ I : Nat → Env → Prop, (∃ m, I m env) ∧ ∀ m env, I m env →
  t env (fun k env1 => if k = true then b { DV with nx := fun e => ∃ m', m' < m ∧ I m' e, ct := fun e => ∃ m', m' < m ∧ I m' e, bk := DV.nx } env1 else DV.nx env1) DV.ex
theorem vst_while {t : Expr} {b : List Stmt} {tt : TT} {tb : TS} {vt : VTT} {vb : VS} {pos : Pos} (hp : PassesOwn (model X.prog X.w) X.A X.env X.xe) (ht : VTe X c Wx t tt vt) (hb : VSs X c Wx b tb vb) : VSt X c Wx (.While t b [] pos) (tWhile tt tb) (vWhile vt vb) := by
  refine ⟨ps_while hp ht.pt hb.ps, fun f Hb env σ H DV D R q e => ?_⟩
  obtain ⟨I, ⟨m0, i0⟩, turn⟩ := q
  refine ⟨fun m σ' H' => ∃ env' Hb', Same Hb Hb' ∧ Rl X.K c f Hb' env' σ' H' ∧ I m env', ⟨m0, env, Hb, Same.refl _, R, i0⟩, ?_⟩
  rintro m σ1 H1 ⟨env1, Hb1, s1, R1, i1⟩
  have e1 := e.mn s1
  refine ht.sim f Hb1 env1 σ1 H1 _ _ _ R1 (turn m env1 i1) e1.px fun b env2 H2 Hb2 s2 R2 q2 => ?_
  cases b with
  | true =>
    rw [if_pos rfl] at q2 ⊢
    have nxt : ∀ env' σ' H' Hb', Same Hb2 Hb' → Rl X.K c f Hb' env' σ' H' → (∃ m', m' < m ∧ I m' env') → ∃ m', m' < m ∧ ∃ env'' Hb'', Same Hb Hb'' ∧ Rl X.K c f Hb'' env'' σ' H' ∧ I m' env'' :=
      fun env' σ' H' Hb' s R' q' => let ⟨m', h1, h2⟩ := q'; ⟨m', h1, env', Hb', (s1.trans s2).trans s, R', h2⟩
    refine ⟨fun σ' H' => ∃ m', m' < m ∧ ∃ env'' Hb'', Same Hb Hb'' ∧ Rl X.K c f Hb'' env'' σ' H' ∧ I m' env'', fun σ' H' z => z, ?_⟩
    exact hb.sim f Hb2 env2 σ1 H2 _ _ R2 q2 ⟨nxt, (e1.mn s2).rt, (e1.mn s2).nx, nxt, (e1.mn s2).ex⟩
  | false =>
    rw [if_neg Bool.false_ne_true] at q2 ⊢
    exact e1.nx _ _ _ _ s2 R2 q2
structure ItOk (K : PySem.W.Frag) (J : It) (Hb : Hp) (items : List D) : Prop where
  go : ∀ i Hb2 H2, Same Hb Hb2 → Same Hb2 H2 → i < items.length → J.go i H2
  stop : ∀ i Hb2 H2, Same Hb Hb2 → Same Hb2 H2 → items.length ≤ i → J.stop i H2
  yld : ∀ i d x Hb2 H2 H3, Same Hb Hb2 → Same Hb2 H2 → items[i]? = some d → J.yld i H2 x H3 → ∃ Hb3, ExtH Hb2 H2 Hb3 H3 ∧ Rp K Hb3 d x
abbrev VI := Env → (List D → Env → Prop) → VX → Prop
def SimI (K : PySem.W.Frag) (c : VC) (Wx : WX) (wi : TI) (vi : VI) : Prop := ∀ (f : Fm) (Hb : Hp) (env : Env) (σ : L2.St) (H : Hp) (Q : List D → Env → Prop) (QX : VX) (R' : It → Hp → Prop), Rl K c f Hb env σ H → vi env Q QX → PX K c f Wx Hb σ QX →
  (∀ items env' J H' Hb', Same Hb Hb' → Rl K c f Hb' env' σ H' → ItOk K J Hb' items → Q items env' → R' J H') → wi σ H R'
structure VIt (X : Cx) (c : VC) (Wx : WX) (tg iter : Expr) (wi : TI) (vi : VI) : Prop where
  pi : PI X tg iter wi
  sim : SimI X.K c Wx wi vi
def loopF (g : VG) (b : VS) (DV : VEnds) : List D → Env → Prop
  | [], env => DV.nx env
  | d :: ds, env => g d env fun env1 => b { DV with nx := loopF g b DV ds, ct := loopF g b DV ds, bk := DV.nx } env1
@[simp] def vFor (vi : VI) (g : VG) (b : VS) : VS := fun DV env => vi env (fun items env1 => loopF g b DV items env1) DV.ex
theorem vst_for {tg iter : Expr} {b : List Stmt} {wi : TI} {g : TG} {tb : TS} {vi : VI} {vg : VG} {vb : VS} {pos : Pos} (hp : PassesOwn (model X.prog X.w) X.A X.env X.xe) {ss : List Nat} (hi : VIt X c Wx tg iter wi vi) (hg : VGt X c ss tg g vg) (hb : VSs X c Wx b tb vb) (hc : X.calm = true := by rfl)
    (hs : ∀ x, foldedSetIterable iter X.env x = pure x := by intro _; rfl) : VSt X c Wx (.For tg iter b [] pos) (tFor wi g tb) (vFor vi vg vb) := by
  refine ⟨ps_for hp hc hi.pi hg.pg hb.ps hs, fun f Hb env σ H DV D R q e => ?_⟩
  refine hi.sim f Hb env σ H _ _ _ R q e.px fun items env0 J H0 Hb0 s0 R0 it q0 => ?_
  refine ⟨fun i m σ' H' => ∃ env' Hb', Same Hb0 Hb' ∧ Rl X.K c f Hb' env' σ' H' ∧ m = items.length - i ∧ i ≤ items.length ∧ loopF vg vb DV (items.drop i) env', ⟨items.length, env0, Hb0, Same.refl _, R0, by simp, Nat.zero_le _, q0⟩, ?_⟩
  rintro i m σ1 H1 ⟨env1, Hb1, s1, R1, rfl, hi1, q1⟩
  have e1 := e.mn (s0.trans s1)
  by_cases hlt : i < items.length
  · rw [List.drop_eq_getElem_cons hlt] at q1
    refine .inr ⟨it.go i Hb1 H1 s1 R1.sub hlt, fun σ' H' => ∃ env' Hb', Same Hb0 Hb' ∧ Rl X.K c f Hb' env' σ' H' ∧ loopF vg vb DV (items.drop (i + 1)) env', fun σ' H' z => ?_, fun x H2 hy => ?_⟩
    · obtain ⟨env', Hb', z1, z2, z3⟩ := z
      exact ⟨items.length - (i + 1), by omega, env', Hb', z1, z2, rfl, hlt, z3⟩
    · obtain ⟨Hb2, x2, r2⟩ := it.yld i _ x Hb1 H1 H2 s1 R1.sub (List.getElem?_eq_getElem hlt) hy
      refine hg.sim f Hb2 env1 σ1 H2 _ x _ _ (R1.ext x2) r2 q1 fun env3 σ3 H3 Hb3 s3 R3 _ q3 => ?_
      have e3 := e1.mn (x2.b.trans s3)
      have nxt : ∀ env' σ' H' Hb', Same Hb3 Hb' → Rl X.K c f Hb' env' σ' H' → loopF vg vb DV (items.drop (i + 1)) env' → ∃ env'' Hb'', Same Hb0 Hb'' ∧ Rl X.K c f Hb'' env'' σ' H' ∧ loopF vg vb DV (items.drop (i + 1)) env'' :=
        fun env' σ' H' Hb' s R' q' => ⟨env', Hb', (s1.trans (x2.b.trans s3)).trans s, R', q'⟩
      exact hb.sim f Hb3 env3 σ3 H3 _ _ R3 q3 ⟨nxt, e3.rt, e3.nx, nxt, e3.ex⟩
  · have hi2 : i = items.length := by omega
    rw [hi2, List.drop_length] at q1
    exact .inl ⟨it.stop i Hb1 H1 s1 R1.sub (by omega), e1.nx _ _ _ _ (Same.refl _) R1 q1⟩
end
end VL
set_option Elab.async false
set_option linter.all false
set_option maxRecDepth 100000
set_option maxHeartbeats 4000000
namespace VL
open PySem PySem.Spec PyProof.Rows L2
variable [CM]
section
variable {K : PySem.W.Frag} {c : VC} {Wx : WX} {X : Cx}
def iSeq (K : PySem.W.Frag) (te : TE) : TI := fun σ H R => te σ H fun x H1 => (∃ a, x = .ref a ∧ (∃ xs, SqL K H1 a xs) ∧ R (Itl K a) H1) ∨ (∃ a, x = .ref a ∧ (∃ xs, SqT K H1 a xs) ∧ R (Itt K a) H1) ∨ (∃ z, x = .str z ∧ R (Its z) H1)
theorem pi_seq {tg l : Expr} {tl : TE} (hl : PE X l tl) : PI X tg l (iSeq X.K tl) := by
  refine ⟨fun pins s σ H R I h => ?_⟩
  refine thn (hl.run pins s σ H _ I h) fun v s1 ⟨x, H1, I1, r1, q1⟩ => ?_
  rcases q1 with ⟨a, e, ⟨xs, hq⟩, q⟩ | ⟨a, e, ⟨xs, hq⟩, q⟩ | ⟨z, e, q⟩
  · subst e
    cases r1
    obtain ⟨its, rv, p, hz⟩ := I1.list hq
    refine wpAny_pyIter_list p.isList ?_
    refine ⟨s1.heap.objs.size, [s1.heap.objs.size], _, _, H1, rfl, I1.kept (t' := s1.toks) fun b o e => Heap.get?_push_of_some _ e, turn_list a _, ⟨_, Heap.get?_push_size _ rfl, rfl, rfl⟩, fun b hb => ?_, q⟩
    have e : b = s1.heap.objs.size := by simpa using hb
    subst e
    exact I1.fpOk (Nat.le_refl _) (I1.hok.fresh (Nat.le_refl _))
  · subst e
    cases r1
    obtain ⟨its, rv, p, hz⟩ := I1.tuple hq
    refine wpAny_pyIter_tuple (show s1.heap.IsTuple a its.toArray from p) ?_
    refine ⟨s1.heap.objs.size, [s1.heap.objs.size], _, _, H1, rfl, I1.kept (t' := s1.toks) fun b o e => Heap.get?_push_of_some _ e, turn_tuple a _, ⟨_, Heap.get?_push_size _ rfl, rfl, rfl⟩, fun b hb => ?_, q⟩
    have e : b = s1.heap.objs.size := by simpa using hb
    subst e
    exact I1.fpOk (Nat.le_refl _) (I1.hok.fresh (Nat.le_refl _))
  · subst e
    obtain ⟨t, rfl⟩ := r1
    cases ha : z.cps.all (· < 128)
    · exact wpAny_pyIter_wide ha (pi_one (tk := s1.toks) I1 _ (turn_str _ z t "str_iterator" (.inr rfl)) ⟨_, Heap.get?_push_size _ rfl, rfl, rfl⟩ q)
    · exact wpAny_pyIter_ascii ha (pi_one (tk := s1.toks) I1 _ (turn_str _ z t "str_ascii_iterator" (.inl rfl)) ⟨_, Heap.get?_push_size _ rfl, rfl, rfl⟩ q)
@[simp] def seqItems (d : D) (k : List D → Prop) : Prop := match d with
  | .lst ds => k ds
  | .tup ds => k ds
  | .str z => k (z.cps.toList.map fun n => .str ⟨#[n]⟩)
  | _ => False
@[simp] def vSeqI (t : VT) : VI := fun env Q QX => t env (fun w env1 => fz w env1 fun d env2 => seqItems d fun ds => Q ds env2) QX
theorem itOk_l {Hb : Hp} {a : Addr} {vs : List V} {ds : List D} (s : Hb a = some (.lst vs)) (r : RpL K Hb ds vs) : ItOk K (Itl K a) Hb ds := by
  have sq : ∀ {Hb2 H2 : Hp}, Same Hb Hb2 → Same Hb2 H2 → SqL K H2 a vs := fun s1 s2 => .of (s2 _ _ (s1 _ _ s))
  have hl := r.length
  refine ⟨fun i Hb2 H2 s1 s2 hi => ⟨vs, vs[i]'(by omega), sq s1 s2, List.getElem?_eq_getElem _⟩, fun i Hb2 H2 s1 s2 hi => ⟨vs, sq s1 s2, by omega⟩, fun i d x Hb2 H2 H3 s1 s2 hd hy => ?_⟩
  obtain ⟨rfl, hy⟩ := hy
  obtain ⟨v, h1, h2⟩ := r.get hd
  rw [hy vs (sq s1 s2)] at h1; cases h1
  exact ⟨Hb2, .refl s2, h2.mn s1⟩
theorem itOk_t {Hb : Hp} {a : Addr} {vs : List V} {ds : List D} (s : SqT K Hb a vs) (r : RpL K Hb ds vs) : ItOk K (Itt K a) Hb ds := by
  have sq : ∀ {Hb2 H2 : Hp}, Same Hb Hb2 → Same Hb2 H2 → SqT K H2 a vs := fun s1 s2 => same_seqT (s1.trans s2) s
  have hl := r.length
  refine ⟨fun i Hb2 H2 s1 s2 hi => ⟨vs, vs[i]'(by omega), sq s1 s2, List.getElem?_eq_getElem _⟩, fun i Hb2 H2 s1 s2 hi => ⟨vs, sq s1 s2, by omega⟩, fun i d x Hb2 H2 H3 s1 s2 hd hy => ?_⟩
  obtain ⟨rfl, hy⟩ := hy
  obtain ⟨v, h1, h2⟩ := r.get hd
  rw [hy vs (sq s1 s2)] at h1; cases h1
  exact ⟨Hb2, .refl s2, h2.mn s1⟩
theorem itOk_str {Hb : Hp} {z : Str} : ItOk K (Its z) Hb (z.cps.toList.map fun n => .str ⟨#[n]⟩) := by
  refine ⟨fun i Hb2 H2 s1 s2 hi => by show i < z.cps.size; simpa using hi, fun i Hb2 H2 s1 s2 hi => by show z.cps.size ≤ i; simpa using hi, fun i d x Hb2 H2 H3 s1 s2 hd hy => ?_⟩
  obtain ⟨rfl, n, hn, rfl⟩ := hy
  have hn' : z.cps.toList[i]? = some n := by rw [Array.getElem?_toList]; exact hn
  rw [List.getElem?_map, hn'] at hd
  cases hd
  exact ⟨Hb2, .refl s2, .str _⟩
theorem vi_seq {tg e : Expr} {te : TE} {t : VT} (h : VE X c Wx e te t) : VIt X c Wx tg e (iSeq X.K te) (vSeqI t) := by
  refine ⟨pi_seq h.pe, fun f Hb env σ H Q QX R' R q px k => ?_⟩
  refine h.sim f Hb env σ H _ QX _ R q px fun w1 env1 v1 H1 Hb1 s1 R1 r1 q1 => ?_
  obtain ⟨d, env2, Hb2, s2, R2, r2, q2⟩ := R1.fz r1 q1
  unfold seqItems at q2
  split at q2
  · cases r2 with
    | lst s r => exact .inl ⟨_, rfl, ⟨_, .of (R2.sub _ _ s)⟩, k _ _ _ _ _ (s1.trans s2) R2 (itOk_l s r) q2⟩
  · cases r2 with
    | tup s r => exact .inr (.inl ⟨_, rfl, ⟨_, same_seqT R2.sub s.1⟩, k _ _ _ _ _ (s1.trans s2) R2 (itOk_t s.1 r) q2⟩)
  · cases r2
    exact .inr (.inr ⟨_, rfl, k _ _ _ _ _ (s1.trans s2) R2 itOk_str q2⟩)
  · exact q2.elim
@[simp] def vRng1 (t : VTA) : VI := fun env Q QX => t env (fun ws env1 => match ws with
  | [.val (.int j)] => (-(2 ^ 62) ≤ j ∧ j < 2 ^ 62) ∧ Q ((List.range j.toNat).map fun k => .int (k : Nat)) env1
  | _ => False) QX
@[simp] def vRng2 (t : VTA) : VI := fun env Q QX => t env (fun ws env1 => match ws with
  | [.val (.int i), .val (.int j)] => (-(2 ^ 62) ≤ i ∧ i < 2 ^ 62 ∧ -(2 ^ 62) ≤ j ∧ j < 2 ^ 62) ∧ Q ((List.range (j - i).toNat).map fun k => .int (i + (k : Nat))) env1
  | _ => False) QX
theorem itOk_r {Hb : Hp} {lo : Int} {n : Nat} : ItOk K (Itr lo n) Hb ((List.range n).map fun k => .int (lo + (k : Nat))) := by
  refine ⟨fun i Hb2 H2 s1 s2 hi => by show i < n; simpa using hi, fun i Hb2 H2 s1 s2 hi => by show n ≤ i; simpa using hi, fun i d x Hb2 H2 H3 s1 s2 hd hy => ?_⟩
  obtain ⟨rfl, rfl⟩ := hy
  rw [List.getElem?_map] at hd
  cases q : (List.range n)[i]? with
  | none => rw [q] at hd; cases hd
  | some k =>
    rw [q] at hd
    cases hd
    obtain ⟨h1, h2⟩ := List.getElem?_eq_some_iff.mp q
    rw [List.getElem_range] at h2
    subst h2
    exact ⟨Hb2, .refl s2, .int _⟩
theorem vi_range1 {tg a : Expr} {ta : TA} {t : VTA} {p pos : Pos} (hm : X.mg "range" = none) (ha : VA X c Wx [a] ta t) (hg : Gl X "range" := by rfl) (hs : starEach [a] X.env = [(false, eval a X.env)] := by rfl) : VIt X c Wx tg (.Call (.Name "range" p) [a] [] pos) (iRng1 ta) (vRng1 t) := by
  refine ⟨pi_range1 hg hm ha.pa hs, fun f Hb env σ H Q QX R' R q px k => ?_⟩
  refine ha.sim f Hb env σ H _ QX _ R q px fun ws env1 vs H1 Hb1 s1 R1 r1 q1 => ?_
  split at q1
  · rename_i j
    obtain ⟨v, rfl, r⟩ := paired1 r1
    have r : Rp X.K Hb1 (.int j) v := r
    cases r
    refine ⟨j, rfl, q1.1.1, q1.1.2, k _ _ _ _ _ s1 R1 itOk_r ?_⟩
    have e : ((List.range j.toNat).map fun k => D.int (0 + (k : Nat))) = (List.range j.toNat).map fun k => D.int (k : Nat) := by
      congr 1
      funext k
      rw [Int.zero_add]
    rw [e]
    exact q1.2
  · exact q1.elim
@[simp] def vRev (t : VT) : VI := fun env Q QX => t env (fun w env1 => fz w env1 fun d env2 => match d with
  | .lst ds => Q ds.reverse env2
  | .tup ds => Q ds.reverse env2
  | _ => False) QX
@[simp] def vApp (to : VT) (t : VTA) : VT := fun env Q QX => to env (fun w env1 => match w with
  | .cel j => match env1[j]? with
    | some (some (.own (.lst _))) => t env1 (fun ws env2 => match ws with
      | [w1] => fz w1 env2 fun d env3 => match env3[j]? with
        | some (some (.own (.lst ds))) => ds.length < sizeLine ∧ Q (.val .non) (env3.set j (some (.own (.lst (ds ++ [d])))))
        | _ => False
      | _ => False) QX
    | _ => False
  | _ => False) QX
theorem ve_append {o e : Expr} {to : TE} {vo : VT} {t : TA} {v : VTA} {apos cpos : Pos} (ho : VE X c Wx o to vo) (ha : VA X c Wx [e] t v)
    (hbase : attributeBase o "append" X.env (eval o X.env) = eval o X.env := by rfl)
    (hfew : ((backTo cpos (starEach [e] X.env)).all (fun x => !x.1) && (backToKw cpos (keywordEach [] X.env)).all (fun x => x.1.isSome)
      && decide ([e].length + ([] : List Keyword).length + (if ([] : List Keyword).isEmpty then 0 else 1) < 30)) = true := by rfl)
    (hline : (apos.endLine == cpos.line) = true := by rfl) (hs : starEach [e] X.env = (false, eval e X.env) :: starEach [] X.env := by rfl) (hplain : (backTo cpos (starEach [] X.env)).any (·.1) = false := by rfl) :
    VE X c Wx (.Call (.Attribute o "append" apos) [e] [] cpos) (tBM X.K "list" rAppend to t) (vApp vo v) := by
  refine ⟨pe_bm PySem.F.plainAttrs_list PySem.F.slot_list_append PySem.F.type_list_append mt_append ho.pe ha.pa hbase hfew hline hs hplain, fun f Hb env σ H Q QX Q' R q px k => ?_⟩
  refine ho.sim f Hb env σ H _ QX _ R q px fun w1 env1 v1 H1 Hb1 s1 R1 r1 q1 => ?_
  split at q1
  · rename_i j
    have r1 : σ[j]? = some (some v1) := r1
    split at q1
    · rename_i ds0 hj
      obtain ⟨a, h1, h2, h3, vs, ha1, hr⟩ := R1.own hj
      rw [r1] at h1; cases h1
      refine ⟨.inl ⟨rfl, vs, .of ha1⟩, ?_⟩
      refine ha.sim f Hb1 env1 σ H1 _ QX _ R1 q1 (px.mn s1) fun ws env2 us H2 Hb2 s2 R2 r2 q2 => ?_
      split at q2
      · rename_i w
        obtain ⟨u, rfl, ru⟩ := paired1 r2
        obtain ⟨d, env3, Hb3, s3, R3, r3, q3⟩ := R2.fz (RS.rw ru) q2
        split at q3
        · rename_i ds hj3
          obtain ⟨a', g1, g2, g3, vs3, ha3, hr3⟩ := R3.own hj3
          rw [r1] at g1; cases g1
          refine ⟨a, vs3, u, rfl, rfl, ha3, by rw [hr3.length]; exact q3.1, ?_⟩
          exact k (.val .non) _ _ _ _ ((s1.trans s2).trans s3) (R3.write hj3 r1 (hr3.app (.one r3))) .non q3.2
        · exact q3.elim
      · exact q2.elim
    · exact q1.elim
  · exact q1.elim
@[simp] def wipeE (env : Env) : List Nat → Env
  | [] => env
  | v :: vs => (wipeE env vs).set v none
@[simp] def restE (env1 env2 : Env) : List Nat → Env
  | [] => env2
  | v :: vs => (restE env1 env2 vs).set v (env1[v]?.getD none)
theorem wipeE_len (env : Env) : ∀ vs : List Nat, (wipeE env vs).length = env.length
  | [] => rfl
  | v :: vs => by simp [wipeE, wipeE_len]
theorem restE_len (env1 env2 : Env) : ∀ vs : List Nat, (restE env1 env2 vs).length = env2.length
  | [] => rfl
  | v :: vs => by simp [restE, restE_len]
theorem wipeE_get (env : Env) : ∀ (vs : List Nat) (j : Nat) (m : M), (wipeE env vs)[j]? = some (some m) → env[j]? = some (some m) ∧ j ∉ vs
  | [], j, m, h => ⟨h, by simp⟩
  | v :: vs, j, m, h => by
    rcases set_get h with ⟨_, e⟩ | ⟨ne, e⟩
    · cases e
    · obtain ⟨h1, h2⟩ := wipeE_get env vs j m e
      exact ⟨h1, by simp only [List.mem_cons, not_or]; exact ⟨fun z => ne z.symm, h2⟩⟩
theorem wipe_out {σ : L2.St} : ∀ {vs : List Nat} {j : Nat}, j ∉ vs → (wipe σ vs)[j]? = σ[j]?
  | [], j, _ => rfl
  | v :: vs, j, h => by
    simp only [List.mem_cons, not_or] at h
    unfold wipe
    rw [List.getElem?_set_ne (fun z => h.1 z.symm)]
    exact wipe_out h.2
theorem wipe_in {σ : L2.St} : ∀ {vs : List Nat} {j : Nat}, j ∈ vs → (wipe σ vs)[j]? = if j < σ.length then some none else none
  | [], j, h => by simp at h
  | v :: vs, j, h => by
    unfold wipe
    by_cases e : v = j
    · subst e
      by_cases hl : v < σ.length
      · rw [List.getElem?_set_self (by rw [wipe_length]; exact hl), if_pos hl]
      · rw [List.getElem?_eq_none (by rw [List.length_set, wipe_length]; omega), if_neg hl]
    · rw [List.getElem?_set_ne e]
      exact wipe_in ((List.mem_cons.mp h).resolve_left (fun z => e z.symm))
theorem wipe_eq {σ τ : L2.St} {vs : List Nat} (hl : τ.length = σ.length) (h : ∀ j, j ∉ vs → τ[j]? = σ[j]?) : wipe τ vs = wipe σ vs := by
  apply List.ext_getElem?
  intro j
  by_cases hj : j ∈ vs
  · rw [wipe_in hj, wipe_in hj, hl]
  · rw [wipe_out hj, wipe_out hj]
    exact h j hj
theorem wipe_wipe {σ : L2.St} {vs : List Nat} : wipe (wipe σ vs) vs = wipe σ vs := wipe_eq (wipe_length _ _) fun j hj => wipe_out hj
theorem restE_get (env1 env2 : Env) : ∀ (vs : List Nat) (j : Nat) (m : M), (restE env1 env2 vs)[j]? = some (some m) → (j ∈ vs ∧ env1[j]? = some (some m)) ∨ (j ∉ vs ∧ env2[j]? = some (some m))
  | [], j, m, h => .inr ⟨by simp, h⟩
  | v :: vs, j, m, h => by
    rcases set_get h with ⟨rfl, e⟩ | ⟨ne, e⟩
    · refine .inl ⟨List.mem_cons_self, ?_⟩
      cases q : env1[v]? with
      | none => rw [q] at e; cases e
      | some z => rw [q] at e; exact congrArg some e.symm
    · rcases restE_get env1 env2 vs j m e with ⟨h1, h2⟩ | ⟨h1, h2⟩
      · exact .inl ⟨List.mem_cons_of_mem _ h1, h2⟩
      · exact .inr ⟨by simp only [List.mem_cons, not_or]; exact ⟨fun z => ne z.symm, h1⟩, h2⟩
theorem Rl.wipe {f : Fm} {Hb H : Hp} {env : Env} {σ : L2.St} {vs : List Nat} (R : Rl K c f Hb env σ H) (hv : ∀ v ∈ vs, v ∉ c.fx) : Rl K c f Hb (wipeE env vs) (L2.wipe σ vs) H := by
  refine ⟨by rw [wipe_length, wipeE_len]; exact R.len, fun {j d} e => ?_, fun {j oc} e => ?_, fun {i j o1 o2 b} e1 e2 e3 e4 => ?_, R.sub, R.frm, R.frb, R.tab, fun i hi => ?_, R.xv⟩
  · obtain ⟨h1, h2⟩ := wipeE_get _ _ _ _ e
    obtain ⟨v, h3, h4⟩ := R.val h1
    exact ⟨v, by rw [wipe_out h2]; exact h3, h4⟩
  · obtain ⟨h1, h2⟩ := wipeE_get _ _ _ _ e
    obtain ⟨a, h3, h4⟩ := R.own h1
    exact ⟨a, by rw [wipe_out h2]; exact h3, h4⟩
  · obtain ⟨h1, h2⟩ := wipeE_get _ _ _ _ e1
    obtain ⟨h3, h4⟩ := wipeE_get _ _ _ _ e2
    rw [wipe_out h2] at e3
    rw [wipe_out h4] at e4
    exact R.inj h1 h3 e3 e4
  · rw [wipe_out (fun z => hv i z hi)]
    exact R.fix i hi
def Fm.put (f : Fm) (D : Addr) (o : HO) : Fm := ⟨upd f.Fr D o, fun b => if b = D then none else f.B b, f.fv⟩
theorem Rl.put {f : Fm} {Hb H : Hp} {env : Env} {σ : L2.St} {D : Addr} {o : HO} (R : Rl K c f Hb env σ H) (n : H D = none) : Rl K c (f.put D o) Hb env σ (upd H D o) := by
  have R1 := R.ext (ExtH.newT (o := o) R.sub n)
  have nb := R.sub.free n
  refine ⟨R1.len, R1.val, fun {i oc} e => ?_, R1.inj, R1.sub, fun b u e => ?_, fun b u e => ?_, fun P hP => ?_, R1.fix, R1.xv⟩
  · obtain ⟨a, h1, h2, h3, h4⟩ := R1.own e
    refine ⟨a, h1, h2, ?_, h4⟩
    obtain ⟨a', g1, _, _, g4⟩ := R.own e
    rw [h1] at g1; cases g1
    obtain ⟨u, hu⟩ := g4.there
    show upd f.Fr D o a = none
    rw [upd_ne (ne_of_none hu n)]; exact h3
  · have e : upd f.Fr D o b = some u := e
    by_cases hb : b = D
    · subst hb; rw [upd_same] at e ⊢; exact e
    · rw [upd_ne hb] at e
      exact R1.frm b u e
  · have e : upd f.Fr D o b = some u := e
    show Hb b = if b = D then none else f.B b
    by_cases hb : b = D
    · subst hb; rw [if_pos rfl]; exact nb
    · rw [upd_ne hb] at e
      rw [if_neg hb]
      exact R.frb b u e
  · obtain ⟨h1, h2, h3⟩ := R1.tab P hP
    obtain ⟨ps, g, _⟩ := (R.tab P hP).1
    refine ⟨h1, h2, ?_⟩
    show upd f.Fr D o P = none
    rw [upd_ne (ne_of_none g n)]; exact h3
theorem Rl.atD {f : Fm} {Hb H : Hp} {env : Env} {σ : L2.St} {D : Addr} {o : HO} (R : Rl K c (f.put D o) Hb env σ H) : H D = some o ∧ Hb D = none := by
  have e : (f.put D o).Fr D = some o := upd_same
  refine ⟨R.frm D o e, ?_⟩
  rw [R.frb D o e]
  show (if D = D then none else f.B D) = none
  rw [if_pos rfl]
theorem Rl.reput {f : Fm} {Hb H : Hp} {env : Env} {σ : L2.St} {D : Addr} {o u : HO} (R : Rl K c (f.put D o) Hb env σ H) : Rl K c (f.put D u) Hb env σ (upd H D u) := by
  obtain ⟨hD, nb⟩ := R.atD
  have frN : ∀ {a : Addr}, (f.put D o).Fr a = none → a ≠ D ∧ f.Fr a = none := fun {a} h => by
    have h : upd f.Fr D o a = none := h
    by_cases e : a = D
    · subst e; rw [upd_same] at h; cases h
    · rw [upd_ne e] at h; exact ⟨e, h⟩
  refine ⟨R.len, R.val, fun {i oc} e => ?_, R.inj, fun b z e => ?_, fun b z e => ?_, fun b z e => ?_, fun P hP => ?_, R.fix, R.xv⟩
  · obtain ⟨a, h1, h2, h3, h4⟩ := R.own e
    obtain ⟨n1, n2⟩ := frN h3
    refine ⟨a, h1, h2, ?_, h4.mn (Same.refl _) fun o q => by rw [upd_ne n1]; exact q⟩
    show upd f.Fr D u a = none
    rw [upd_ne n1]; exact n2
  · rw [upd_ne (ne_of_none e nb)]; exact R.sub _ _ e
  · have e : upd f.Fr D u b = some z := e
    by_cases hb : b = D
    · subst hb; rw [upd_same] at e ⊢; exact e
    · rw [upd_ne hb] at e ⊢
      exact R.frm b z (show upd f.Fr D o b = some z by rw [upd_ne hb]; exact e)
  · have e : upd f.Fr D u b = some z := e
    show Hb b = if b = D then none else f.B b
    by_cases hb : b = D
    · subst hb; rw [if_pos rfl]; exact nb
    · rw [upd_ne hb] at e
      exact R.frb b z (show upd f.Fr D o b = some z by rw [upd_ne hb]; exact e)
  · obtain ⟨h1, h2, h3⟩ := R.tab P hP
    obtain ⟨n1, n2⟩ := frN h3
    obtain ⟨ps, g, z⟩ := h1
    refine ⟨⟨ps, by rw [upd_ne n1]; exact g, z⟩, h2, ?_⟩
    show upd f.Fr D u P = none
    rw [upd_ne n1]; exact n2
theorem Rl.unput {f : Fm} {Hb H : Hp} {env : Env} {σ : L2.St} {D : Addr} {o : HO} (R : Rl K c (f.put D o) Hb env σ H) (hf : f.Fr D = none) : Rl K c f Hb env σ H := by
  have frN : ∀ {a : Addr}, (f.put D o).Fr a = none → f.Fr a = none := fun {a} h => by
    have h : upd f.Fr D o a = none := h
    by_cases e : a = D
    · subst e; exact hf
    · rw [upd_ne e] at h; exact h
  refine ⟨R.len, R.val, fun {i oc} e => ?_, R.inj, R.sub, fun b z e => ?_, fun b z e => ?_, fun P hP => ?_, R.fix, R.xv⟩
  · obtain ⟨a, h1, h2, h3, h4⟩ := R.own e
    exact ⟨a, h1, h2, frN h3, h4⟩
  · exact R.frm b z (show upd f.Fr D o b = some z by rw [upd_ne (ne_of_none e hf)]; exact e)
  · have q := R.frb b z (show upd f.Fr D o b = some z by rw [upd_ne (ne_of_none e hf)]; exact e)
    have q : Hb b = if b = D then none else f.B b := q
    rw [if_neg (ne_of_none e hf)] at q
    exact q
  · obtain ⟨h1, h2, h3⟩ := R.tab P hP
    exact ⟨h1, h2, frN h3⟩
abbrev W0 : WX := fun _ _ _ _ => False
abbrev noX : VX := fun _ _ _ => False
theorem px0 {f : Fm} {Hb : Hp} {σ : L2.St} {Wx : WX} : PX K c f Wx Hb σ noX := fun C fs env' d H' Hb' s R x z => z.elim
def compF (vg : VG) (vt : VTT) (ve : VT) (vs : List Nat) (Q : List D → Env → Prop) : List D → List D → Env → Prop
  | [], acc, env => Q acc env
  | d :: ds, acc, env => vg d env fun env1 => vt env1 (fun b env2 => if b = true then ve env2 (fun w env3 => fz w env3 fun d' env4 => acc.length < sizeLine ∧ compF vg vt ve vs Q ds (acc ++ [d']) (wipeE env4 vs)) noX else compF vg vt ve vs Q ds acc (wipeE env2 vs)) noX
def okVs (c : VC) (vs : List Nat) (env : Env) : Prop := ∀ v ∈ vs, v ∉ c.fx ∧ ∀ oc, env[v]? ≠ some (some (.own oc))
@[simp] def vLc (c : VC) (vi : VI) (vg : VG) (vt : VTT) (ve : VT) (vs : List Nat) : VT := fun env Q QX => vi env (fun items env1 => okVs c vs env1 ∧ compF vg vt ve vs (fun acc env2 => Q (.tmp (.lst acc)) (restE env1 env2 vs)) items [] (wipeE env1 vs)) QX
structure VTs (X : Cx) (c : VC) (Wx : WX) (ifs : List Expr) (tt : TT) (vt : VTT) : Prop where
  pts : PTs X ifs tt
  sim : SimT X.K c Wx tt vt
@[simp] def vYes : VTT := fun env Q _ => Q true env
theorem sim_lc {wi : TI} {vi : VI} {g : TG} {vg : VG} {tt : TT} {vt : VTT} {te : TE} {ve : VT} {ss vs : List Nat} (hss : ∀ j ∈ ss, j ∈ vs) (hi : SimI K c Wx wi vi) (hg : SimG K c ss g vg) (ht : SimT K c W0 tt vt) (he : SimE K c W0 te ve) : SimE K c Wx (tLc wi g tt te vs) (vLc c vi vg vt ve vs) := by
  intro f Hb env σ H Q QX Q' R q px k
  refine hi f Hb env σ H _ QX _ R q px fun items env1 J H1 Hb1 s1 R1 it q1 => ?_
  obtain ⟨hv, q1⟩ := q1
  intro D nD
  have Rw := (R1.wipe fun v hv' => (hv v hv').1).put (o := .lst []) nD
  refine ⟨fun i m H' => ∃ env' Hb' acc accV, Same Hb1 Hb' ∧ Rl K c (f.put D (.lst accV)) Hb' env' (L2.wipe σ vs) H' ∧ RpL K Hb' acc accV ∧ m = items.length - i ∧ i ≤ items.length ∧
    compF vg vt ve vs (fun acc env2 => Q (.tmp (.lst acc)) (restE env1 env2 vs)) (items.drop i) acc env', ⟨items.length, _, Hb1, [], [], Same.refl _, Rw, .nil, by simp, Nat.zero_le _, q1⟩, ?_⟩
  rintro i m H2 ⟨env2, Hb2, acc, accV, s2, R2, ra, rfl, hi2, q2⟩
  by_cases hlt : i < items.length
  · rw [List.drop_eq_getElem_cons hlt] at q2
    refine .inr ⟨it.go i Hb2 H2 s2 R2.sub hlt, fun H' => ∃ env' Hb' acc accV, Same Hb1 Hb' ∧ Rl K c (f.put D (.lst accV)) Hb' env' (L2.wipe σ vs) H' ∧ RpL K Hb' acc accV ∧
      compF vg vt ve vs (fun acc env2 => Q (.tmp (.lst acc)) (restE env1 env2 vs)) (items.drop (i + 1)) acc env', fun H' z => ?_, fun x H3 hy => ?_⟩
    · obtain ⟨env', Hb', a, av, z1, z2, z3, z4⟩ := z
      exact ⟨items.length - (i + 1), by omega, env', Hb', a, av, z1, z2, z3, rfl, hlt, z4⟩
    · obtain ⟨Hb3, x3, r3⟩ := it.yld i _ x Hb2 H2 H3 s2 R2.sub (List.getElem?_eq_getElem hlt) hy
      refine hg _ Hb3 env2 _ H3 _ x _ _ (R2.ext x3) r3 q2 fun env4 σ4 H4 Hb4 s4 R4 n4 q4 => ?_
      have hw : L2.wipe σ4 vs = L2.wipe σ vs := by
        rw [← wipe_wipe (σ := σ)]
        exact wipe_eq n4.1 fun j hj => n4.2 j fun z => hj (hss j z)
      refine ⟨hw, ?_⟩
      refine ht _ Hb4 env4 σ4 H4 _ noX _ R4 q4 px0 fun b env5 H5 Hb5 s5 R5 q5 => ?_
      cases b with
      | true =>
        rw [if_pos rfl] at q5 ⊢
        refine he _ Hb5 env5 σ4 H5 _ noX _ R5 q5 px0 fun w env6 v6 H6 Hb6 s6 R6 r6 q6 => ?_
        obtain ⟨d', env7, Hb7, s7, R7, r7, hz, q7⟩ := R6.fz r6 q6
        obtain ⟨hD, _⟩ := R7.atD
        have ss := ((((x3.b.trans s4).trans s5).trans s6).trans s7)
        refine ⟨accV, hD, by rw [ra.length]; exact hz, wipeE env7 vs, Hb7, acc ++ [d'], accV ++ [v6], s2.trans ss, ?_, (ra.mn ss).app (.one r7), q7⟩
        rw [← hw]
        exact (R7.wipe fun v hv' => (hv v hv').1).reput
      | false =>
        rw [if_neg Bool.false_ne_true] at q5 ⊢
        have ss := ((x3.b.trans s4).trans s5)
        refine ⟨wipeE env5 vs, Hb5, acc, accV, s2.trans ss, ?_, ra.mn ss, q5⟩
        rw [← hw]
        exact R5.wipe fun v hv' => (hv v hv').1
  · have hi3 : i = items.length := by omega
    rw [hi3, List.drop_length] at q2
    refine .inl ⟨it.stop i Hb2 H2 s2 R2.sub (by omega), ?_⟩
    have q2 : Q (.tmp (.lst acc)) (restE env1 env2 vs) := q2
    obtain ⟨hD, hbD⟩ := R2.atD
    have fD : f.Fr D = none := R1.frm.free nD
    have R3 := R2.unput fD
    have ownD : ∀ {j : Nat} {oc : OC}, (restE env1 env2 vs)[j]? = some (some (.own oc)) → j ∉ vs ∧ env2[j]? = some (some (.own oc)) := fun {j oc} e => by
      rcases restE_get _ _ _ _ _ e with ⟨h1, h2⟩ | h
      · exact ((hv j h1).2 oc h2).elim
      · exact h
    have R4 : Rl K c f Hb2 (restE env1 env2 vs) σ H2 := by
      refine ⟨by rw [restE_len, ← R3.len, wipe_length], fun {j d} e => ?_, fun {j oc} e => ?_, fun {i j o1 o2 b} e1 e2 e3 e4 => ?_, R3.sub, R3.frm, R3.frb, R3.tab, R1.fix, R3.xv⟩
      · rcases restE_get _ _ _ _ _ e with ⟨h1, h2⟩ | ⟨h1, h2⟩
        · obtain ⟨v, h3, h4⟩ := R1.val h2
          exact ⟨v, h3, h4.mn s2⟩
        · obtain ⟨v, h3, h4⟩ := R3.val h2
          rw [wipe_out h1] at h3
          exact ⟨v, h3, h4⟩
      · obtain ⟨h1, h2⟩ := ownD e
        obtain ⟨a, h3, h4⟩ := R3.own h2
        rw [wipe_out h1] at h3
        exact ⟨a, h3, h4⟩
      · obtain ⟨h1, h2⟩ := ownD e1
        obtain ⟨h3, h4⟩ := ownD e2
        exact R3.inj h2 h4 (by rw [wipe_out h1]; exact e3) (by rw [wipe_out h3]; exact e4)
    refine k (.tmp (.lst acc)) _ _ _ _ (s1.trans s2) R4 ⟨D, rfl, hbD, fD, ⟨accV, hD, ra⟩, fun j oc e z => ?_⟩ q2
    obtain ⟨h1, h2⟩ := ownD e
    obtain ⟨a, h3, _, h5, _⟩ := R2.own h2
    rw [wipe_out h1, z] at h3
    cases h3
    have h5 : upd f.Fr D (.lst accV) D = none := h5
    rw [upd_same] at h5; cases h5
end
end VL
set_option Elab.async false
set_option linter.all false
set_option maxRecDepth 100000
set_option maxHeartbeats 4000000
namespace VL
open PySem PySem.Spec PyProof.Rows L2
variable [CM]
section
variable {K : PySem.W.Frag} {c : VC} {Wx : WX} {X : Cx}
structure Blk (X : Cx) (c : VC) (scope : Scope) (own : List (Str × Nat)) (ss : List Nat) (tg elt : Expr) (ifs : List Expr) (g : TG) (vg : VG) (tt : TT) (vt : VTT) (te : TE) (ve : VT) : Prop where
  ok : BlkOk X.N X.env.scope scope own
  sub : ∀ j ∈ ss, j ∈ own.map (·.2)
  g : ∀ (s : Shared) (H : Hp) (C : Addr) (cl : List (Str × Addr)) (fp : List Addr), VGt (X.blk s H scope (compEnvC scope cl C X.env) fp) c ss tg g vg
  t : ∀ (s : Shared) (H : Hp) (C : Addr) (cl : List (Str × Addr)) (fp : List Addr), VTs (X.blk s H scope (compEnvC scope cl C X.env) fp) c W0 ifs tt vt
  e : ∀ (s : Shared) (H : Hp) (C : Addr) (cl : List (Str × Addr)) (fp : List Addr), VE (X.blk s H scope (compEnvC scope cl C X.env) fp) c W0 elt te ve
theorem Blk.sim {scope : Scope} {own : List (Str × Nat)} {ss : List Nat} {tg elt : Expr} {ifs : List Expr} {g : TG} {vg : VG} {tt : TT} {vt : VTT} {te : TE} {ve : VT} {wi : TI} {vi : VI} {iter : Expr} (B : Blk X c scope own ss tg elt ifs g vg tt vt te ve) (hi : VIt X c Wx tg iter wi vi) :
    SimE X.K c Wx (tLc wi g tt te (own.map (·.2))) (vLc c vi vg vt ve (own.map (·.2))) :=
  sim_lc B.sub hi.sim (B.g {} (fun _ => none) 0 [] []).sim (B.t {} (fun _ => none) 0 [] []).sim (B.e {} (fun _ => none) 0 [] []).sim
theorem ve_lc {scope : Scope} {own : List (Str × Nat)} {ss : List Nat} {tg elt iter : Expr} {ifs : List Expr} {g : TG} {vg : VG} {tt : TT} {vt : VTT} {te : TE} {ve : VT} {wi : TI} {vi : VI} {pos : Pos} (nd : X.N.Nodup) (hi : VIt X c Wx tg iter wi vi) (B : Blk X c scope own ss tg elt ifs g vg tt vt te ve) (hc : X.calm = true := by rfl) (hs : ∀ x, foldedSetIterable iter X.env x = pure x := by intro _; rfl) :
    VE X c Wx (.ListComp elt [⟨tg, iter, ifs, 0⟩] scope pos) (tLc wi g tt te (own.map (·.2))) (vLc c vi vg vt ve (own.map (·.2))) :=
  ⟨pe_lc hc nd hi.pi B.ok (fun s H C cl fp => (B.g s H C cl fp).pg) (fun s H C cl fp => (B.t s H C cl fp).pts) (fun s H C cl fp => (B.e s H C cl fp).pe) hs, B.sim hi⟩
end
theorem owns_inj {K : PySem.W.Frag} {Hb H : Hp} : ∀ {ms : List M} {vs : List V} {i j : Nat} {oi oj : OC} {a : Addr}, Paired (MR K Hb H) ms vs → (owns ms vs).Nodup → ms[i]? = some (.own oi) → ms[j]? = some (.own oj) → vs[i]? = some (.ref a) → vs[j]? = some (.ref a) → i = j
  | [], _, i, j, _, _, _, h, _, e, _, _, _ => by simp at e
  | m :: ms, [], i, j, _, _, _, h, _, e, _, _, _ => by cases h
  | m :: ms, v :: vs, i, j, oi, oj, a, h, n, e1, e2, e3, e4 => by
    cases h with
    | cons x r =>
      have tail : (owns ms vs).Nodup := by
        cases m with
        | val d => simpa [owns] using n
        | own oc => obtain ⟨b, rfl, _⟩ := x; exact (List.nodup_cons.mp (show (b :: owns ms vs).Nodup from n)).2
      have head : ∀ {k : Nat} {ok : OC}, m = .own ok → v = .ref a → ∀ {l : Nat} {ol : OC}, ms[l]? = some (.own ol) → vs[l]? = some (.ref a) → False := fun {k ok} em ev {l ol} q1 q2 => by
        subst em ev
        exact (List.nodup_cons.mp (show (a :: owns ms vs).Nodup from n)).1 (owns_mem r q1 q2)
      cases i with
      | zero =>
        cases j with
        | zero => rfl
        | succ j => exact (head (k := 0) (by simpa using e1) (by simpa using e3) (l := j) (by simpa using e2) (by simpa using e4)).elim
      | succ i =>
        cases j with
        | zero => exact (head (k := 0) (by simpa using e2) (by simpa using e4) (l := i) (by simpa using e1) (by simpa using e3)).elim
        | succ j => rw [owns_inj r tail (i := i) (j := j) (by simpa using e1) (by simpa using e2) (by simpa using e3) (by simpa using e4)]
@[simp] def outsOf : List M → Nat → Env → Option (List M)
  | [], _, _ => some []
  | .val d :: ms, k, env => (outsOf ms (k + 1) env).map (.val d :: ·)
  | .own _ :: ms, k, env => match env[k]? with
    | some (some (.own oc)) => (outsOf ms (k + 1) env).map (.own oc :: ·)
    | _ => none
theorem outsOf_shape : ∀ {ms : List M} {k : Nat} {env : Env} {os : List M}, outsOf ms k env = some os → sameShape ms os
  | [], _, _, _, h => by cases h; trivial
  | .val d :: ms, k, env, os, h => by
    unfold outsOf at h
    cases q : outsOf ms (k + 1) env with
    | none => rw [q] at h; cases h
    | some r => rw [q] at h; cases h; exact ⟨rfl, outsOf_shape q⟩
  | .own oc :: ms, k, env, os, h => by
    unfold outsOf at h
    split at h
    · cases q : outsOf ms (k + 1) env with
      | none => rw [q] at h; cases h
      | some r =>
        rw [q] at h; cases h
        exact outsOf_shape (ms := ms) q
    · cases h
theorem outsOf_at : ∀ {ms : List M} {k : Nat} {env : Env} {os : List M} {j : Nat} {oc : OC}, outsOf ms k env = some os → ms[j]? = some (.own oc) → ∃ oc', os[j]? = some (.own oc') ∧ env[k + j]? = some (some (.own oc'))
  | [], _, _, _, j, _, h, e => by simp at e
  | .val d :: ms, k, env, os, 0, oc, h, e => by simp at e
  | .val d :: ms, k, env, os, j + 1, oc, h, e => by
    unfold outsOf at h
    cases q : outsOf ms (k + 1) env with
    | none => rw [q] at h; cases h
    | some r =>
      rw [q] at h; cases h
      obtain ⟨oc', h1, h2⟩ := outsOf_at (j := j) q (by simpa using e)
      exact ⟨oc', by simpa using h1, by rw [show k + (j + 1) = k + 1 + j by omega]; exact h2⟩
  | .own d :: ms, k, env, os, 0, oc, h, e => by
    unfold outsOf at h
    split at h
    · rename_i oc' hE
      cases q : outsOf ms (k + 1) env with
      | none => rw [q] at h; cases h
      | some r =>
        rw [q] at h; cases h
        exact ⟨oc', rfl, hE⟩
    · cases h
  | .own d :: ms, k, env, os, j + 1, oc, h, e => by
    unfold outsOf at h
    split at h
    · cases q : outsOf ms (k + 1) env with
      | none => rw [q] at h; cases h
      | some r =>
        rw [q] at h; cases h
        obtain ⟨oc', h1, h2⟩ := outsOf_at (j := j) q (by simpa using e)
        exact ⟨oc', by simpa using h1, by rw [show k + (j + 1) = k + 1 + j by omega]; exact h2⟩
    · cases h
@[simp] def start0 (n : Nat) (ms : List M) : Env := ms.map some ++ List.replicate (n - ms.length) none
@[simp] def endsOf (ms : List M) (A : W → List M → Prop) (B : Str → List (Str × D) → List M → Prop) : VEnds where
  nx := fun env => ∃ os, outsOf ms 0 env = some os ∧ A (.val .non) os
  rt := fun w env => match w with
    | .cel _ => False
    | w => ∃ os, outsOf ms 0 env = some os ∧ A w os
  bk := fun _ => False
  ct := fun _ => False
  ex := fun C fs env => ∃ os, outsOf ms 0 env = some os ∧ B C fs os
theorem pget {α β : Type} {F : α → β → Prop} : ∀ {as : List α} {bs : List β} {k : Nat} {a : α}, Paired F as bs → as[k]? = some a → ∃ b, bs[k]? = some b ∧ F a b
  | [], _, k, a, h, e => by simp at e
  | x :: as, _, 0, a, h, e => by
    cases h with
    | cons p r =>
      have e1 : x = a := by simpa using e
      subst e1
      exact ⟨_, rfl, p⟩
  | x :: as, _, k + 1, a, h, e => by
    cases h with
    | cons p r =>
      obtain ⟨b, h1, h2⟩ := pget (k := k) r (by simpa using e)
      exact ⟨b, by simpa using h1, h2⟩
theorem paired_of {α β : Type} {F : α → β → Prop} : ∀ {as : List α} {bs : List β}, as.length = bs.length → (∀ (k : Nat) (a : α) (b : β), as[k]? = some a → bs[k]? = some b → F a b) → Paired F as bs
  | [], [], _, _ => .nil
  | [], _ :: _, h, _ => by simp at h
  | _ :: _, [], h, _ => by simp at h
  | a :: as, b :: bs, h, f => .cons (f 0 a b rfl rfl) (paired_of (by simpa using h) fun k x y h1 h2 => f (k + 1) x y (by simpa using h1) (by simpa using h2))
theorem sameShape_len : ∀ {ms os : List M}, sameShape ms os → ms.length = os.length
  | [], [], _ => rfl
  | [], _ :: _, h => h.elim
  | .val _ :: _, [], h => h.elim
  | .own _ :: _, [], h => h.elim
  | .val _ :: ms, .val _ :: os, h => by simp [sameShape_len h.2]
  | .own _ :: ms, .own _ :: os, h => by have h : sameShape ms os := h; simp [sameShape_len h]
  | .val _ :: _, .own _ :: _, h => h.elim
  | .own _ :: _, .val _ :: _, h => h.elim
theorem shape_val : ∀ {ms os : List M} {k : Nat} {d : D}, sameShape ms os → os[k]? = some (.val d) → ms[k]? = some (.val d)
  | [], [], k, oc, _, e => by simp at e
  | [], _ :: _, k, oc, h, e => h.elim
  | .val d :: ms, [], _, _, h, _ => h.elim
  | .own o :: ms, [], _, _, h, _ => h.elim
  | .val d :: ms, .own e :: os, _, _, h, _ => h.elim
  | .own d :: ms, .val e :: os, _, _, h, _ => h.elim
  | .val d :: ms, .val e :: os, 0, x, h, q => by
    have : e = x := by simpa using q
    subst this
    rw [h.1]; rfl
  | .val d :: ms, .val e :: os, k + 1, x, h, q => by simpa using shape_val (k := k) h.2 (by simpa using q)
  | .own d :: ms, .own e :: os, 0, x, h, q => by simp at q
  | .own d :: ms, .own e :: os, k + 1, x, h, q => by
    have h : sameShape ms os := h
    simpa using shape_val (k := k) h (by simpa using q)
section
variable {P : Program} {w : World} {K : PySem.W.Frag} {mg : Str → Option Value} {base : Heap}
structure FunC (K : PySem.W.Frag) (C : Value → Prop) (x qual : Str) (st : Stmt) (f : Addr) (fd : FuncData) : Prop where
  ex : ∃ (o1 : Value) (o2 o3 : Option Addr) (v1 v2 v3 cv v4 : Value) (sl : Array (Option Value)), (fd = PySem.W.fnOf x qual (defArgs st) (defBody st) (defScope st) .none v1 v2 v3 o3 cv v4 ∧ C cv) ∧ K.lookup f = some ⟨o1, o2, .func fd, sl⟩ ∧ PySem.W.codeIn K cv qual = true
theorem FunC.of {x qual : Str} {st : Stmt} {f : Addr} {fd : FuncData} (F : Fun K x qual st f fd) : FunC K (fun _ => True) x qual st f fd := by
  rcases F.ex with ⟨o1, o2, v1, v2, v3, o3, cv, v4, sl, h1, h2, h3⟩
  exact ⟨o1, o2, o3, v1, v2, v3, cv, v4, sl, ⟨h1, trivial⟩, h2, h3⟩
theorem FunC.body {C : Value → Prop} {x qual : Str} {st : Stmt} {f : Addr} {fd : FuncData} {N ps : List Str} {k : Nat} {sp : Sp} (F : FunC K C x qual st f fd) (S : FnScope N ps (defScope st)) (hlen : ∀ vs H Q E, sp vs H Q E → vs.length = ps.length)
    (hb : ∀ (cv : Value), C cv → ∀ (A : Around) (out : List PySem.Env) (s : Shared) (H : Hp) (vs : List V) (Q : VK) (E : XK), Room k (A.deeper (envOfC qual (defScope st) s.heap.objs.size f cv)) → sp vs H Q E →
      ∃ t, PSs (cxOf (L2N.CX P w) P w K mg base N qual (defScope st) f cv A out s H E) (defBody st) t ∧ t { nx := fun _ H' => Q .non H', rt := Q } (L2.start N vs) H) : FnOk P w K mg base (L2N.CX P w) (k + 1) f fd ps sp := by
  rcases F.ex with ⟨o1, o2, o3, v1, v2, v3, cv, v4, sl, ⟨rfl, hC⟩, h2, h3⟩
  exact fn_of h2 h3 S hlen (hb cv hC)
theorem vl_core {K : PySem.W.Frag} {N ps : List Str} {c : VC} {sp : VSp} {t : VS} {ts : TS} {vs : List V} {H : Hp} {Q : VK} {E : XK} (hpre : ps.length ≤ N.length)
    (hfx : ∀ i ∈ c.fx, i < ps.length) (hl : ∀ ms A B, sp ms A B → ms.length = ps.length ∧ ∀ i oc, ms[i]? = some (.own oc) → i ∈ c.fx)
    (hv : SimS K c (fun cls d _ H => E cls d H) ts t) (ht : ∀ ms A B, sp ms A B → t (endsOf ms A B) (start0 N.length ms)) (hxc : c.xc = []) (h : spOf K c.T sp vs H Q E) : ts { nx := fun _ H' => Q .non H', rt := Q } (L2.start N vs) H := by
  obtain ⟨Hb, ms, A', B', p, hs, hA, hB⟩ := h
  obtain ⟨hlen, hmode⟩ := hl ms A' B' hs
  have lv : vs.length = ms.length := p.args.length.symm
  have hpl : ps.length ≤ N.length := hpre
  let fr : Fm := ⟨fun b => if b ∈ owns ms vs ∨ b ∈ c.T then none else H b, Hb, fun i => vs.getD i .non⟩
  have frS : ∀ b o, fr.Fr b = some o → H b = some o ∧ b ∉ owns ms vs ∧ b ∉ c.T := fun b o e => by
    have e : (if b ∈ owns ms vs ∨ b ∈ c.T then none else H b) = some o := e
    split at e
    · cases e
    · rename_i hn
      exact ⟨e, fun z => hn (.inl z), fun z => hn (.inr z)⟩
  have frO : ∀ b, b ∈ owns ms vs → fr.Fr b = none := fun b hb => if_pos (.inl hb)
  have frT : ∀ b, b ∈ c.T → fr.Fr b = none := fun b hb => if_pos (.inr hb)
  have frN : ∀ b o, H b = some o → b ∉ owns ms vs → b ∉ c.T → fr.Fr b = some o := fun b o e h1 h2 => (if_neg (by rintro (z | z); exact h1 z; exact h2 z)).trans e
  have senv : ∀ {i : Nat} {m : M}, (start0 N.length ms)[i]? = some (some m) → ms[i]? = some m := fun {i m} e => by
    unfold start0 at e
    by_cases hi : i < ms.length
    · rw [List.getElem?_append_left (by simpa using hi), List.getElem?_map] at e
      cases q : ms[i]? with
      | none => rw [q] at e; cases e
      | some z => rw [q] at e; exact congrArg some (Option.some.inj (Option.some.inj e))
    · rw [List.getElem?_append_right (by simpa using hi), List.getElem?_replicate] at e
      split at e <;> cases e
  have sst : ∀ {i : Nat} {v : V}, vs[i]? = some v → (L2.start N vs)[i]? = some (some v) := fun {i v} e => by
    unfold L2.start
    have hi : i < vs.length := (List.getElem?_eq_some_iff.mp e).1
    rw [List.getElem?_append_left (by simpa using hi), List.getElem?_map, e]; rfl
  have R0 : Rl K c fr Hb (start0 N.length ms) (L2.start N vs) H := by
    refine ⟨by unfold L2.start start0; simp only [List.length_append, List.length_map, List.length_replicate]; omega, fun {i d} e => ?_, fun {i oc} e => ?_, fun {i j o1 o2 b} e1 e2 e3 e4 => ?_, p.sub, fun b o e => (frS b o e).1, fun b o e => rfl, fun P hP => ⟨(p.tab P hP).1, (p.tab P hP).2, frT P hP⟩, fun i hi => ?_, fun p hp => by rw [hxc] at hp; cases hp⟩
    · obtain ⟨v, h1, h2⟩ := pget p.args (senv e)
      exact ⟨v, sst h1, h2⟩
    · obtain ⟨v, h1, a, rfl, h2, h3⟩ := pget p.args (senv e)
      exact ⟨a, sst h1, h2, frO a (owns_mem p.args (senv e) h1), h3⟩
    · obtain ⟨v1, g1, a1, rfl, _, _⟩ := pget p.args (senv e1)
      obtain ⟨v2, g2, a2, rfl, _, _⟩ := pget p.args (senv e2)
      have z1 := sst g1
      have z2 := sst g2
      rw [e3] at z1; cases z1
      rw [e4] at z2; cases z2
      exact owns_inj p.args p.nd (senv e1) (senv e2) g1 g2
    · have hi2 := hfx i hi
      have : i < vs.length := by omega
      rw [sst (List.getElem?_eq_getElem this)]
      show _ = some (some (vs.getD i .non))
      rw [List.getD_eq_getElem?_getD, List.getElem?_eq_getElem this]; rfl
  have post : ∀ {env' : Env} {σ' : L2.St} {H' Hb' : Hp} {os : List M}, Same Hb Hb' → Rl K c fr Hb' env' σ' H' → outsOf ms 0 env' = some os → Post K c.T Hb ms vs H os Hb' H' := fun {env' σ' H' Hb' os} s R' ho => by
    have sh := outsOf_shape ho
    have ownAt : ∀ {b : Addr}, b ∈ owns ms vs → ∃ (i : Nat) (oc' : OC), env'[i]? = some (some (M.own oc')) ∧ σ'[i]? = some (some (V.ref b)) ∧ vs[i]? = some (V.ref b) := fun {b} hb => by
      obtain ⟨i, oc, h1, h2⟩ := mem_owns p.args hb
      obtain ⟨oc', h3, h4⟩ := outsOf_at ho h1
      rw [Nat.zero_add] at h4
      have hi := hmode i oc h1
      have fx := R'.fix i hi
      have fx : σ'[i]? = some (some (vs.getD i .non)) := fx
      rw [List.getD_eq_getElem?_getD, h2] at fx
      exact ⟨i, oc', h4, fx, h2⟩
    refine ⟨s, R'.sub, fun a o e h1 h2 => R'.frm a o (frN a o e h1 h2), fun a o e => ?_, ?_, sh, fun P hP => ⟨(R'.tab P hP).1, (R'.tab P hP).2.1⟩⟩
    · by_cases h1 : a ∈ owns ms vs
      · obtain ⟨i, oc', z1, z2, z3⟩ := ownAt h1
        obtain ⟨a', y1, y2, _⟩ := R'.own z1
        rw [z2] at y1; cases y1
        obtain ⟨i0, oc0, x1, x2⟩ := mem_owns p.args h1
        obtain ⟨v, w1, a2, rfl, w2, _⟩ := pget p.args x1
        rw [x2] at w1; cases w1
        rw [y2, w2]
      · by_cases h2 : a ∈ c.T
        · rw [(R'.tab a h2).2.1, (p.tab a h2).2]
        · exact R'.frb a o (frN a o e h1 h2)
    · refine paired_of (by rw [← sameShape_len sh]; exact lv.symm) fun i m v h1 h2 => ?_
      cases m with
      | val d =>
        obtain ⟨v', g1, g2⟩ := pget p.args (shape_val sh h1)
        rw [h2] at g1; cases g1
        exact Rp.mn g2 s
      | own oc =>
        obtain ⟨oc0, g1⟩ := shape_own' sh h1
        obtain ⟨oc', g2, g3⟩ := outsOf_at ho g1
        rw [h1] at g2; cases g2
        rw [Nat.zero_add] at g3
        obtain ⟨v', y1, a, rfl, _, _⟩ := pget p.args g1
        rw [h2] at y1; cases y1
        obtain ⟨a', z1, z2, _, z4⟩ := R'.own g3
        have fx : σ'[i]? = some (some (vs.getD i .non)) := R'.fix i (hmode i oc0 g1)
        rw [List.getD_eq_getElem?_getD, h2] at fx
        rw [z1] at fx
        have fx : V.ref a' = V.ref a := Option.some.inj (Option.some.inj fx)
        cases fx
        exact ⟨a, rfl, z2, z4⟩
  have fresh : ∀ {w : W} {v : V} {env' : Env} {σ' : L2.St} {H' Hb' : Hp} {os : List M}, Rl K c fr Hb' env' σ' H' → outsOf ms 0 env' = some os → (∀ i, w ≠ .cel i) → RW K fr Hb' env' σ' H' w v → RO K Hb' H H' w v := fun {w v env' σ' H' Hb' os} R' ho nc hr => by
    cases w with
    | val d => exact hr
    | cel i => exact (nc i rfl).elim
    | tmp oc =>
      obtain ⟨a, e, h1, h2, h3, h4⟩ := hr
      refine ⟨a, e, h1, ?_, h3⟩
      cases q : H a with
      | none => rfl
      | some o =>
        exfalso
        by_cases g1 : a ∈ owns ms vs
        · obtain ⟨i, oc0, z1, z2⟩ := mem_owns p.args g1
          obtain ⟨oc', z3, z4⟩ := outsOf_at ho z1
          rw [Nat.zero_add] at z4
          have fx : σ'[i]? = some (some (vs.getD i .non)) := R'.fix i (hmode i oc0 z1)
          rw [List.getD_eq_getElem?_getD, z2] at fx
          exact h4 i oc' z4 fx
        · by_cases g2 : a ∈ c.T
          · exact h3.notab (R'.tab a g2).1.g rfl
          · rw [frN a o q g1 g2] at h2; cases h2
  refine hv fr Hb _ _ H (endsOf ms A' B') _ R0 (ht ms A' B' hs) ⟨fun env' σ' H' Hb' s R' q => ?_, fun w env' v σ' H' Hb' s R' rw q => ?_, fun env' σ' H' Hb' s R' q => q.elim, fun env' σ' H' Hb' s R' q => q.elim, fun C fs env' d σ' H' Hb' s R' xr q => ?_⟩
  · obtain ⟨os, ho, q⟩ := q
    exact hA _ os q _ H' Hb' (post s R' ho) (show Rp K Hb' .non .non from .non)
  · cases w with
    | val d =>
      obtain ⟨os, ho, q⟩ := q
      exact hA _ os q _ H' Hb' (post s R' ho) rw
    | tmp oc =>
      obtain ⟨os, ho, q⟩ := q
      exact hA _ os q _ H' Hb' (post s R' ho) (fresh R' ho (fun i z => by cases z) rw)
    | cel i => exact False.elim q
  · obtain ⟨os, ho, q⟩ := q
    exact hB C fs os q d H' Hb' (post s R' ho) xr
theorem vl_okC {C : Value → Prop} {x qual : Str} {st : Stmt} {f : Addr} {fd : FuncData} {N ps : List Str} {k : Nat} {c : VC} {sp : VSp} {t : VS} (F : FunC K C x qual st f fd) (S : FnScope N ps (defScope st))
    (hfx : ∀ i ∈ c.fx, i < ps.length) (hl : ∀ ms A B, sp ms A B → ms.length = ps.length ∧ ∀ i oc, ms[i]? = some (.own oc) → i ∈ c.fx)
    (hbody : ∀ (cdv : Value), C cdv → ∀ (A : Around) (outer : List PySem.Env) (s : Shared) (H : Hp) (E : XK), Room k (A.deeper (envOfC qual (defScope st) s.heap.objs.size f cdv)) →
      ∃ ts, VSs (cxOf (L2N.CX P w) P w K mg base N qual (defScope st) f cdv A outer s H E) c (fun cls d _ H => E cls d H) (defBody st) ts t)
    (ht : ∀ ms A B, sp ms A B → t (endsOf ms A B) (start0 N.length ms)) (hxc : c.xc = [] := by rfl) : FnOk P w K mg base (L2N.CX P w) (k + 1) f fd ps (spOf K c.T sp) := by
  refine F.body S (fun vs H Q E h => ?_) (fun cdv hC A outer s H vs Q E hr h => ?_)
  · obtain ⟨Hb, ms, A, B, p, hs, _⟩ := h
    rw [← p.args.length]
    exact (hl ms A B hs).1
  · obtain ⟨ts, hv⟩ := hbody cdv hC A outer s H E hr
    exact ⟨ts, hv.ps, vl_core (by have := congrArg List.length S.pre; rw [List.length_take] at this; omega) hfx hl hv.sim ht hxc h⟩
theorem vl_ok {x qual : Str} {st : Stmt} {f : Addr} {fd : FuncData} {N ps : List Str} {k : Nat} {c : VC} {sp : VSp} {t : VS} (F : Fun K x qual st f fd) (S : FnScope N ps (defScope st))
    (hfx : ∀ i ∈ c.fx, i < ps.length) (hl : ∀ ms A B, sp ms A B → ms.length = ps.length ∧ ∀ i oc, ms[i]? = some (.own oc) → i ∈ c.fx)
    (hbody : ∀ (cdv : Value) (A : Around) (outer : List PySem.Env) (s : Shared) (H : Hp) (E : XK), Room k (A.deeper (envOfC qual (defScope st) s.heap.objs.size f cdv)) →
      ∃ ts, VSs (cxOf (L2N.CX P w) P w K mg base N qual (defScope st) f cdv A outer s H E) c (fun cls d _ H => E cls d H) (defBody st) ts t)
    (ht : ∀ ms A B, sp ms A B → t (endsOf ms A B) (start0 N.length ms)) (hxc : c.xc = [] := by rfl) : FnOk P w K mg base (L2N.CX P w) (k + 1) f fd ps (spOf K c.T sp) :=
  vl_okC (FunC.of F) S hfx hl (fun cdv _ => hbody cdv) ht hxc
end
end VL
set_option Elab.async false
set_option linter.all false
set_option maxRecDepth 100000
set_option maxHeartbeats 4000000
namespace VL
open PySem PySem.Spec PyProof.Rows L2
variable [CM]
section
variable {K : PySem.W.Frag} {c : VC} {Wx : WX} {X : Cx}
def strLt (x y : Str) : Bool := decide (x.cps.toList < y.cps.toList)
@[simp] def cIS (p : Int → Int → Bool) (q : Str → Str → Bool) : G2
  | .int i, .int j, Q => Q (.val (.bl (p i j)))
  | .str i, .str j, Q => Q (.val (.bl (q i j)))
  | _, _, _ => False
def rIS (p : Int → Int → Bool) (q : Str → Str → Bool) : R2 := fun x y H Q => rI0 (fun i j => .bl (p i j)) x y H Q ∨ ∃ i j, x = .str i ∧ y = .str j ∧ Q (.bl (q i j)) H
theorem ops_IS {p : Int → Int → Bool} {q : Str → Str → Bool} : OpS K (rIS p q) (cIS p q) := by
  intro Hb H d1 d2 v1 v2 Q Q' s r1 r2 g k
  unfold cIS at g
  split at g
  · cases r1; cases r2
    exact .inl ⟨_, _, rfl, rfl, k (.val (.bl _)) _ _ _ (.refl s) (.bl _) g⟩
  · cases r1; cases r2
    exact .inr ⟨_, _, rfl, rfl, k (.val (.bl _)) _ _ _ (.refl s) (.bl _) g⟩
  · exact g.elim
theorem opr_lt : OpR X (compareOp .Lt) (rIS (fun i j => decide (i < j)) strLt) := OpR.or op_lt op_lt_str
theorem opr_le : OpR X (compareOp .LtE) (rIS (fun i j => decide (i ≤ j)) fun x y => !strLt y x) := OpR.or op_le op_le_str
theorem opr_gt : OpR X (compareOp .Gt) (rIS (fun i j => decide (j < i)) fun x y => strLt y x) := OpR.or op_gt op_gt_str
theorem opr_ge : OpR X (compareOp .GtE) (rIS (fun i j => decide (j ≤ i)) fun x y => !strLt x y) := OpR.or op_ge op_ge_str
variable {a b : Expr} {ta tb : TE} {va vb : VT} {pos : Pos}
theorem opr_eq (hu : X.A.units + 64 < cLine) : OpR X (compareOp .Eq) (rEqA X.K) := OpR.or op_eq (op_eqD hu)
theorem opr_ne (hu : X.A.units + 64 < cLine) : OpR X (compareOp .NotEq) (rNeA X.K) := OpR.or op_ne (op_neD hu)
@[simp] def dIsN (neg : Bool) : D → D → (W → Prop) → Prop
  | .non, .non, Q => Q (.val (.bl (!neg)))
  | .int _, .non, Q => Q (.val (.bl neg))
  | .bl _, .non, Q => Q (.val (.bl neg))
  | .str _, .non, Q => Q (.val (.bl neg))
  | .tup _, .non, Q => Q (.val (.bl neg))
  | .lst _, .non, Q => Q (.val (.bl neg))
  | _, _, _ => False
theorem ops_isN : OpS K (fun x y H Q => y = .non ∧ Q (.bl (decide (x = .non))) H) (dIsN false) := by
  intro Hb H d1 d2 v1 v2 Q Q' s r1 r2 g k
  unfold dIsN at g
  split at g <;> first
    | exact g.elim
    | (cases r1; cases r2; exact ⟨rfl, k (.val (.bl _)) _ _ _ (.refl s) (.bl _) (by simpa using g)⟩)
inductive TyN where
  | int | bool | str | tuple
def TyN.s : TyN → String
  | .int => "int" | .bool => "bool" | .str => "str" | .tuple => "tuple"
@[simp] def isT : TyN → D → Option Bool
  | .int, .int _ => some true
  | .int, .bl _ => some true
  | .bool, .bl _ => some true
  | .str, .str _ => some true
  | .tuple, .tup _ => some true
  | _, .obj _ _ => none
  | _, .scr _ => none
  | _, _ => some false
theorem isT_ok {H : Hp} {T : TyN} {d : D} {v : V} {b : Bool} {Hb : Hp} (s : Same Hb H) (r : RR K Hb H d v) (e : isT T d = some b) : ∃ t, TyX K H v t ∧ PySem.W.kitOne K t (.type T.s) = some b := by
  cases r with
  | non => exact ⟨_, .base .non, by cases T <;> cases e <;> exact kit_ty (by decide +kernel)⟩
  | bl x => exact ⟨_, .base (.bl x), by cases T <;> cases e <;> exact kit_ty (by decide +kernel)⟩
  | int x => exact ⟨_, .base (.int x), by cases T <;> cases e <;> exact kit_ty (by decide +kernel)⟩
  | str x => exact ⟨_, .base (.str x), by cases T <;> cases e <;> exact kit_ty (by decide +kernel)⟩
  | tup q p =>
    rcases same_seqT s q.1 with (z | ⟨o, z⟩) | ⟨o, its, n, h1, h2, _⟩
    · exact ⟨_, .base (.tup z), by cases T <;> cases e <;> exact kit_ty (by decide +kernel)⟩
    · exact ⟨_, .fTuple z, by cases T <;> cases e <;> exact kit_ty (by decide +kernel)⟩
    · exact ⟨_, .kTuple h1 h2, by cases T <;> cases e <;> exact kit_ty (by decide +kernel)⟩
  | lst q p => exact ⟨_, .base (.lst q), by cases T <;> cases e <;> exact kit_ty (by decide +kernel)⟩
  | obj _ _ => cases T <;> cases e
  | scr _ _ => cases T <;> cases e
@[simp] def vIsi (T : TyN) (t : VT) : VT := fun env Q QX => t env (fun w env1 => rd w env1 fun d => match isT T d with
  | some b => Q (.val (.bl b)) env1
  | none => False) QX
theorem ve_isi {x : Expr} {tx : TE} {vx : VT} {p p2 : Pos} {n : Str} (T : TyN) (hm : X.mg "isinstance" = none) (hmT : X.mg n = none) (hT : bootBuiltins n = some (.type T.s)) (hx : VE X c Wx x tx vx) (hg : Gl X "isinstance" := by rfl) (hgT : Gl X n := by rfl) (hn : n ≠ "__name__" := by decide) (hd : (n == ("__debug__" : Str)) = false := by decide)
    (he : starEach [x, .Name n p2] X.env = (false, eval x X.env) :: starEach [.Name n p2] X.env := by rfl) (he2 : starEach [.Name n p2] X.env = (false, eval (.Name n p2) X.env) :: starEach [] X.env := by rfl) (hpl : (backTo pos (starEach [.Name n p2] X.env)).any (·.1) = false := by rfl) :
    VE X c Wx (.Call (.Name "isinstance" p) [x, .Name n p2] [] pos) (tCB (rIsi X.K) (tCons tx (tCons (tC (.ty T.s)) tNil))) (vIsi T vx) := by
  refine ⟨pe_callB call_isi hg hm (by decide +kernel) (pa_cons hx.pe (pa_cons (pe_bltn hgT hmT hT rfl hn hd) pa_nil he2) he) (by decide) (by decide) he hpl, fun f Hb env σ H Q QX Q' R q px k => ?_⟩
  refine hx.sim f Hb env σ H _ QX _ R q px fun w1 env1 v1 H1 Hb1 s1 R1 r1 q1 => ?_
  obtain ⟨d, e, q1⟩ := rd_of q1
  split at q1
  · rename_i b hb
    obtain ⟨t, h1, h2⟩ := isT_ok R1.sub (R1.rd r1 e) hb
    exact ⟨v1, _, t, _, b, rfl, .ty _, h1, h2, k (.val (.bl b)) _ _ _ _ s1 R1 (.bl b) q1⟩
  · exact q1.elim
variable {e : Expr} {te : TE} {ve : VT} {p : Pos} {t : TA} {v : VTA}
theorem ve_len (hm : X.mg "len" = none) (ha : VA X c Wx [e] t v) (hg : Gl X "len" := by rfl) (he : starEach [e] X.env = (false, eval e X.env) :: starEach [] X.env := by rfl) (hpl : (backTo pos (starEach [] X.env)).any (·.1) = false := by rfl) : VE X c Wx (.Call (.Name "len" p) [e] [] pos) (tCB (fun xs H Q => ∃ x n, xs = [x] ∧ LenV X.K x H n ∧ Q (.int n) H) t) (vCB dLen v) := ve_callB call_len calls_len hm (by decide +kernel) ha hg (by decide) (by decide) he hpl
theorem ve_min2 (hm : X.mg "min" = none) (ha : VA X c Wx [a, b] t v) (hc : X.calm = true := by rfl) (hg : Gl X "min" := by rfl) (he : starEach [a, b] X.env = (false, eval a X.env) :: starEach [b] X.env := by rfl) (hpl : (backTo pos (starEach [b] X.env)).any (·.1) = false := by rfl) : VE X c Wx (.Call (.Name "min" p) [a, b] [] pos) (tCB (fun xs H Q => ∃ i j, xs = [.int i, .int j] ∧ Q (.int (if j < i then j else i)) H) t) (vCB dMin2 v) := ve_callB (call_min2 hc) calls_min2 hm (by decide +kernel) ha hg (by decide) (by decide) he hpl
theorem ve_intc (hm : X.mg "int" = none) (ha : VA X c Wx [e] t v) (hg : Gl X "int" := by rfl) (he : starEach [e] X.env = (false, eval e X.env) :: starEach [] X.env := by rfl) (hpl : (backTo pos (starEach [] X.env)).any (·.1) = false := by rfl) : VE X c Wx (.Call (.Name "int" p) [e] [] pos) (tCB rIntA t) (vCB dInt v) := ve_callTy (CallR.or call_int1 call_int_str) calls_int hm (by decide +kernel) ha hg (by decide) (by decide) he hpl
theorem ve_strc (hm : X.mg "str" = none) (ha : VA X c Wx [e] t v) (hg : Gl X "str" := by rfl) (he : starEach [e] X.env = (false, eval e X.env) :: starEach [] X.env := by rfl) (hpl : (backTo pos (starEach [] X.env)).any (·.1) = false := by rfl) : VE X c Wx (.Call (.Name "str" p) [e] [] pos) (tCB (fun xs H Q => ∃ i, xs = [.int i] ∧ i.natAbs.log2 < 1920 ∧ Q (.str (toString i)) H) t) (vCB dStr v) := ve_callTy call_str_int calls_str hm (by decide +kernel) ha hg (by decide) (by decide) he hpl
theorem ve_tuplec (hm : X.mg "tuple" = none) (ha : VA X c Wx [e] t v) (hg : Gl X "tuple" := by rfl) (he : starEach [e] X.env = (false, eval e X.env) :: starEach [] X.env := by rfl) (hpl : (backTo pos (starEach [] X.env)).any (·.1) = false := by rfl) : VE X c Wx (.Call (.Name "tuple" p) [e] [] pos) (tCB (fun xs H Q => ∃ p ys, xs = [.ref p] ∧ ((SqL X.K H p ys ∧ NewT H ys Q) ∨ (SqT X.K H p ys ∧ Q (.ref p) H))) t) (vCB dTuple v) := ve_callTy call_tupleN calls_tuple hm (by decide +kernel) ha hg (by decide) (by decide) he hpl
end
structure FunB (K : PySem.W.Frag) (mg : Str → Option Value) (x : Str) (st : Stmt) (ps : List Str) (f : Addr) (fd : FuncData) : Prop where
  F : Fun K x x st f fd
  g : mg x = some (.ref f)
  b : Binds K fd ps []
structure Callee (P : Program) (w : World) (K : PySem.W.Frag) (mg : Str → Option Value) (base : Heap) (T : List Addr) (x : Str) (k : Nat) (ps : List Str) (sp : VSp) (f : Addr) (fd : FuncData) : Prop where
  ok : FnOk P w K mg base (L2N.CX P w) k f fd ps (spOf K T sp)
  g : mg x = some (.ref f)
  b : Binds K fd ps []
  kp : PySem.W.keepIn K (.ref f) = true
theorem Callee.mono {P : Program} {w : World} {K : PySem.W.Frag} {mg : Str → Option Value} {base : Heap} {T : List Addr} {x : Str} {j k : Nat} {ps : List Str} {sp : VSp} {f : Addr} {fd : FuncData} (C : Callee P w K mg base T x j ps sp f fd) (h : j ≤ k) : Callee P w K mg base T x k ps sp f fd := ⟨C.ok.mono h, C.g, C.b, C.kp⟩
section
variable {K : PySem.W.Frag} {c : VC} {Wx : WX} {X : Cx}
theorem ve_fn {x : Str} {k : Nat} {ps : List Str} {sp : VSp} {fa : Addr} {fd : FuncData} {p pos : Pos} {e : Expr} {es : List Expr} {t : TA} {v : VTA} (C : Callee X.prog X.w X.K X.mg X.base c.T x k ps sp fa fd) (hr : Room k X.A) (hx : L2N.Takes X Wx)
    (ha : VA X c Wx (e :: es) t v) (hg : Gl X x := by rfl) (hdb : (x == ("__debug__" : Str)) = false := by decide) (he : starEach (e :: es) X.env = (false, eval e X.env) :: starEach es X.env := by rfl) (hpl : (backTo pos (starEach es X.env)).any (·.1) = false := by rfl) :
    VE X c Wx (.Call (.Name x p) (e :: es) [] pos) (tCallSD (spOf X.K c.T sp) [] (WE Wx) t) (vCall sp v) := ve_call C.ok hr C.g C.kp C.b (fun σ => L2N.passAt hx σ) ha hg hdb he hpl
structure GlobK (K : PySem.W.Frag) (mg : Str → Option Value) (x : Str) (d : D) (v : V) : Prop where
  at_ : ∃ u, mg x = some u ∧ RelV v u
  rp : ∀ H, Rp K H d v
theorem ve_gl {x : Str} {d : D} {v : V} {pos : Pos} (G : GlobK X.K X.mg x d v) (hg : Gl X x := by rfl) (hd : (x == ("__debug__" : Str)) = false := by decide) : VE X c Wx (.Name x pos) (tC v) (vC d) := ve_glob ⟨G.at_, G.rp⟩ hg hd
theorem GlobC.of {K : PySem.W.Frag} {mg : Str → Option Value} {x : Str} {d : D} {v : V} (h : ∃ u, mg x = some u ∧ RelV v u) (r : ∀ H, Rp K H d v) (hK : X.K = K) (hm : X.mg = mg) : GlobC X x d v := ⟨by rw [hm]; exact h, by rw [hK]; exact r⟩
end
section
variable {P : Program} {w : World} {K : PySem.W.Frag} {mg : Str → Option Value} {base : Heap}
theorem vl_fn {x : Str} {st : Stmt} {f : Addr} {fd : FuncData} {N ps : List Str} {k : Nat} {T : List Addr} {fx : List Nat} {sp : VSp} {t : VS} (F : FunB K mg x st ps f fd) (S : FnScope N ps (defScope st))
    (hfx : ∀ i ∈ fx, i < ps.length) (hl : ∀ ms A B, sp ms A B → ms.length = ps.length ∧ ∀ i oc, ms[i]? = some (.own oc) → i ∈ fx)
    (hbody : ∀ (cdv : Value) (A : Around) (outer : List PySem.Env) (s : Shared) (H : Hp) (E : XK), Room k (A.deeper (envOfC x (defScope st) s.heap.objs.size f cdv)) →
      ∃ ts, VSs (cxOf (L2N.CX P w) P w K mg base N x (defScope st) f cdv A outer s H E) ⟨T, fx, []⟩ (fun cls d _ H => E cls d H) (defBody st) ts t)
    (ht : ∀ ms A B, sp ms A B → t (endsOf ms A B) (start0 N.length ms)) : Callee P w K mg base T x (k + 1) ps sp f fd :=
  ⟨vl_ok (c := ⟨T, fx, []⟩) F.F S hfx hl hbody ht, F.g, F.b, F.F.kp⟩
end
end VL
set_option Elab.async false
set_option linter.all false
set_option maxRecDepth 100000
set_option maxHeartbeats 4000000
namespace VL
open PySem PySem.Spec PyProof.Rows L2
variable [CM]
@[simp] def modeOk : List M → Nat → List Nat → Prop
  | [], _, _ => True
  | .val _ :: ms, k, fx => modeOk ms (k + 1) fx
  | .own _ :: ms, k, fx => k ∈ fx ∧ modeOk ms (k + 1) fx
theorem modeOk_at : ∀ {ms : List M} {k : Nat} {fx : List Nat}, modeOk ms k fx → ∀ i oc, ms[i]? = some (.own oc) → k + i ∈ fx
  | [], _, _, _, i, oc, e => by simp at e
  | .val d :: ms, k, fx, h, 0, oc, e => by simp at e
  | .val d :: ms, k, fx, h, i + 1, oc, e => by
    have := modeOk_at (ms := ms) h i oc (by simpa using e)
    rw [show k + (i + 1) = k + 1 + i by omega]; exact this
  | .own d :: ms, k, fx, h, 0, oc, e => h.1
  | .own d :: ms, k, fx, h, i + 1, oc, e => by
    have := modeOk_at (ms := ms) h.2 i oc (by simpa using e)
    rw [show k + (i + 1) = k + 1 + i by omega]; exact this
theorem hl0 {ms : List M} {fx : List Nat} {n : Nat} (h1 : ms.length = n) (h : modeOk ms 0 fx) : ms.length = n ∧ ∀ i oc, ms[i]? = some (.own oc) → i ∈ fx :=
  ⟨h1, fun i oc e => by have := modeOk_at h i oc e; rwa [Nat.zero_add] at this⟩
section
variable {K : PySem.W.Frag} {c : VC} {Wx : WX} {X : Cx}
variable {e : Expr} {te : TE} {ve : VT} {p pos : Pos} {t : TA} {v : VTA}
theorem RpL.bls {Hb : Hp} : ∀ {bs : List Bool} {vs : List V}, RpL K Hb (bs.map D.bl) vs → vs = bs.map V.bl
  | [], _, h => by cases h; rfl
  | b :: bs, _, h => by
    cases h with
    | cons a r => cases a; rw [RpL.bls r]; rfl
theorem RpL.ints {Hb : Hp} : ∀ {bs : List Int} {vs : List V}, RpL K Hb (bs.map D.int) vs → vs = bs.map V.int
  | [], _, h => by cases h; rfl
  | b :: bs, _, h => by
    cases h with
    | cons a r => cases a; rw [RpL.ints r]; rfl
def dAll : GN
  | [.lst ds], Q => ∃ bs : List Bool, ds = bs.map D.bl ∧ Q (.val (.bl (bs.all id)))
  | _, _ => False
theorem calls_all : CallS K (rAll K) dAll := by
  intro Hb H ds vs Q Q' s p g k
  unfold dAll at g
  split at g
  · obtain ⟨v, rfl, r⟩ := paired1 p
    obtain ⟨bs, rfl, g⟩ := g
    cases r with
    | lst s1 p1 => cases p1.bls; exact ⟨_, bs, rfl, .of s1, k (.val (.bl _)) _ _ _ (.refl s) (.bl _) g⟩
  · exact g.elim
theorem ve_all (hm : X.mg "all" = none) (ha : VA X c Wx [e] t v) (hc : X.calm = true := by rfl) (hg : Gl X "all" := by rfl) (he : starEach [e] X.env = (false, eval e X.env) :: starEach [] X.env := by rfl) (hpl : (backTo pos (starEach [] X.env)).any (·.1) = false := by rfl) : VE X c Wx (.Call (.Name "all" p) [e] [] pos) (tCB (rAll X.K) t) (vCB dAll v) := ve_callB (cr_all hc) calls_all hm (by decide +kernel) ha hg (by decide) (by decide) he hpl
end
@[simp] theorem atI_c0 {α : Type} {a : α} {l : List α} : atI (a :: l) 0 = some a := by simp [atI, ixN]
@[simp] theorem atI_c1 {α : Type} {a b : α} {l : List α} : atI (a :: b :: l) 1 = some b := by simp [atI, ixN]; split <;> first | rfl | omega
@[simp] theorem atI_c2 {α : Type} {a b c : α} {l : List α} : atI (a :: b :: c :: l) 2 = some c := by simp [atI, ixN]; split <;> first | rfl | omega
@[simp] theorem ixN_c0 {n : Nat} : ixN (n + 1) 0 = some 0 := by simp [ixN]
@[simp] theorem ixN_c1 {n : Nat} : ixN (n + 1 + 1) 1 = some 1 := by simp [ixN]; omega
@[simp] theorem ixN_c2 {n : Nat} : ixN (n + 1 + 1 + 1) 2 = some 2 := by simp [ixN]; omega
theorem VE.re {X : Cx} {c : VC} {Wx : WX} {e : Expr} {te te' : TE} {t : VT} (h : VE X c Wx e te t) (q : te = te') : VE X c Wx e te' t := q ▸ h
theorem VTs.re {X : Cx} {c : VC} {Wx : WX} {e : List Expr} {te te' : TT} {t : VTT} (h : VTs X c Wx e te t) (q : te = te') : VTs X c Wx e te' t := q ▸ h
theorem boot_int : bootBuiltins "int" = some (.type TyN.int.s) := by decide +kernel
theorem boot_bool : bootBuiltins "bool" = some (.type TyN.bool.s) := by decide +kernel
theorem boot_str : bootBuiltins "str" = some (.type TyN.str.s) := by decide +kernel
theorem boot_tuple : bootBuiltins "tuple" = some (.type TyN.tuple.s) := by decide +kernel
theorem RpL.ofInts {K : PySem.W.Frag} {H : Hp} : ∀ ns : List Int, RpL K H (ns.map D.int) (ns.map V.int)
  | [] => .nil
  | n :: ns => .cons (.int n) (RpL.ofInts ns)
theorem cx_none {P : Program} {w : World} {outer : List PySem.Env} {H : Hp} {s : Shared} {u : Value} {s' : Shared} (h : L2N.CX P w outer H s (fun _ _ _ => False) u s') : False := by
  obtain ⟨_, _, _, _, _, _, _, _, _, _, _, _, h⟩ := h
  exact h
theorem Callee.none {P : Program} {w : World} {K : PySem.W.Frag} {mg : Str → Option Value} {base : Heap} {T : List Addr} {x : Str} {st : Stmt} {k : Nat} {ps : List Str} {f : Addr} {fd : FuncData} (F : FunB K mg x st ps f fd) : Callee P w K mg base T x k ps (fun _ _ _ => False) f fd :=
  ⟨⟨fun vs H Q E h => by obtain ⟨_, _, _, _, _, h, _⟩ := h; exact h.elim, fun A outer s H args us vs Q E _ _ _ _ h => by obtain ⟨_, _, _, _, _, h, _⟩ := h; exact h.elim⟩, F.g, F.b, F.F.kp⟩
end VL
set_option Elab.async false
set_option linter.all false
set_option maxRecDepth 100000
set_option maxHeartbeats 4000000
namespace VL
open PySem PySem.Spec PyProof.Rows L2
variable [CM]
section
variable {K : PySem.W.Frag} {c : VC} {Wx : WX} {X : Cx}
def hid (H : Hp) (a : Addr) : Hp := fun b => if b = a then none else H b
theorem hid_at {H : Hp} {a : Addr} : hid H a a = none := if_pos rfl
theorem hid_ne {H : Hp} {a b : Addr} (h : b ≠ a) : hid H a b = H b := if_neg h
theorem hid_sub {H : Hp} {a : Addr} : Same (hid H a) H := fun b o e => by
  by_cases h : b = a
  · subst h; rw [hid_at] at e; cases e
  · rwa [hid_ne h] at e
theorem hid_upd {H : Hp} {a : Addr} {o : HO} (h : H a = some o) : upd (hid H a) a o = H := by
  funext b
  by_cases e : b = a
  · subst e; rw [upd_same, h]
  · rw [upd_ne e, hid_ne e]
theorem Rl.drop {f : Fm} {Hb H : Hp} {env : Env} {σ : L2.St} {a : Addr} {oc : OC} (R : Rl K c f Hb env σ H) (hb : Hb a = none) (hf : f.Fr a = none) (hc : Cont K Hb H a oc) (hn : ∀ (i : Nat) (oc' : OC), env[i]? = some (some (.own oc')) → σ[i]? ≠ some (some (.ref a))) : Rl K c f Hb env σ (hid H a) := by
  refine ⟨R.len, R.val, fun {i oc'} e => ?_, R.inj, fun b o e => ?_, fun b o e => ?_, R.frb, fun P hP => ?_, R.fix, R.xv⟩
  · obtain ⟨a', h1, h2, h3, h4⟩ := R.own e
    have ne : a' ≠ a := by rintro rfl; exact hn i oc' e h1
    exact ⟨a', h1, h2, h3, h4.mn (Same.refl _) fun o ho => by rw [hid_ne ne]; exact ho⟩
  · rw [hid_ne (ne_of_none e hb)]; exact R.sub b o e
  · rw [hid_ne (ne_of_none e hf)]; exact R.frm b o e
  · obtain ⟨h1, h2, h3⟩ := R.tab P hP
    have ne : P ≠ a := hc.notab h1.g
    obtain ⟨ps, g1, g2⟩ := h1
    exact ⟨⟨ps, by rw [hid_ne ne]; exact g1, g2⟩, h2, h3⟩
def handT (w : W) (k : OC → Prop) : Prop := match w with
  | .tmp oc => k oc
  | _ => False
@[simp] theorem handT_tmp {oc : OC} {k : OC → Prop} : handT (.tmp oc) k = k oc := rfl
@[simp] def vCallT (sp : VSp) (t0 : VT) (t : VTA) : VT := fun env Q QX => t0 env (fun w env1 => handT w fun oc => t env1 (fun ws env2 => argMs ws env2 fun ms => (cels ws env2).Nodup ∧ sp (.own oc :: ms) (fun w outs => Q w (wb env2 ws outs.tail)) fun C fs outs => QX C fs (wb env2 ws outs.tail)) QX) QX
theorem MR.mn {Hb H H' : Hp} {m : M} {v : V} (h : MR K Hb H m v) (s : Same H H') : MR K Hb H' m v := by
  cases m with
  | val d => exact h
  | own oc =>
    obtain ⟨a, e, h1, h2⟩ := h
    exact ⟨a, e, h1, h2.mn (Same.refl _) fun o ho => s _ _ ho⟩
theorem MRs.mn {Hb H H' : Hp} : ∀ {ms : List M} {vs : List V}, Paired (MR K Hb H) ms vs → Same H H' → Paired (MR K Hb H') ms vs
  | [], _, h, _ => by cases h; exact .nil
  | m :: ms, _, h, s => by cases h with | cons a r => exact .cons (MR.mn a s) (MRs.mn r s)
theorem owns_there {Hb H : Hp} {ms : List M} {vs : List V} {a : Addr} (h : Paired (MR K Hb H) ms vs) (ha : a ∈ owns ms vs) : ∃ o, H a = some o := by
  obtain ⟨k, oc, h1, h2⟩ := mem_owns h ha
  obtain ⟨v, g1, a', e, _, g2⟩ := pget h h1
  rw [h2] at g1; cases g1; cases e
  exact g2.there
theorem ve_callT {CX : CXT} {k : Nat} {fa : Addr} {fd : FuncData} {ps : List Str} {sp : VSp} {x : Str} {p pos : Pos} {e : Expr} {es : List Expr} {t0 : TE} {v0 : VT} {t : TA} {v : VTA} (F : FnOk X.prog X.w X.K X.mg X.base CX k fa fd ps (spOf X.K c.T sp)) (hr : Room k X.A) (hm : X.mg x = some (.ref fa)) (hk : PySem.W.keepIn X.K (.ref fa) = true) (hb : Binds X.K fd ps []) (hx : ∀ σ, PassesAt CX X σ (WE Wx σ))
    (h0 : VE X c Wx e t0 v0) (ha : VA X c Wx es t v) (hg : Gl X x := by rfl) (hdb : (x == ("__debug__" : Str)) = false := by decide) (he : starEach (e :: es) X.env = (false, eval e X.env) :: starEach es X.env := by rfl) (hpl : (backTo pos (starEach es X.env)).any (·.1) = false := by rfl) :
    VE X c Wx (.Call (.Name x p) (e :: es) [] pos) (tCallSD (spOf X.K c.T sp) [] (WE Wx) (tCons t0 t)) (vCallT sp v0 v) := by
  refine ⟨pe_callSD F hr hg hm hk hb .nil hx (pa_cons h0.pe ha.pa he) hdb he hpl, fun f Hb env σ H Q QX Q' R q px k => ?_⟩
  refine h0.sim f Hb env σ H _ QX _ R q px fun w1 env1 v1 H1 Hb1 s1 R1 r1 q1 => ?_
  cases w1 with
  | val d => exact False.elim q1
  | cel i => exact False.elim q1
  | tmp oc =>
    obtain ⟨a, rfl, hb1, hf, hc, hn⟩ := r1
    obtain ⟨o, ho⟩ := hc.there
    have Rp := (R1.drop hb1 hf hc hn).put (o := o) hid_at
    rw [hid_upd ho] at Rp
    refine ha.sim (f.put a o) Hb1 env1 σ H1 _ QX _ Rp q1 (fun C fs env' d H' Hb' s R' => px C fs env' d H' Hb' (s1.trans s) (R'.unput hf)) fun ws env2 vs H2 Hb2 s2 R2 r2 q2 => ?_
    obtain ⟨ha2, hb2⟩ := R2.atD
    have R3 := R2.unput hf
    have hc2 : Cont X.K Hb2 H2 a oc := hc.mn s2 fun o' e => by rw [ho] at e; cases e; exact ha2
    have hn2 : ∀ (i : Nat) (oc' : OC), env2[i]? = some (some (.own oc')) → σ[i]? ≠ some (some (.ref a)) := fun i oc' e z => by
      obtain ⟨a', h1, _, h3, _⟩ := R2.own e
      rw [z] at h1; cases h1
      have h3 : upd f.Fr a o a = none := h3
      rw [upd_same] at h3; cases h3
    have R4 := R3.drop hb2 hf hc2 hn2
    obtain ⟨ms, ao, nd, q2⟩ := R4.argMs r2 q2
    have na : a ∉ owns ms vs := fun z => by
      obtain ⟨o', e⟩ := owns_there ao.rel z
      rw [hid_at] at e; cases e
    show spOf X.K c.T sp ((V.ref a :: vs) ++ []) H2 Q' (WE Wx σ)
    rw [List.append_nil]
    have toP : ∀ {outs : List M} {Hb' H' : Hp}, Post X.K c.T Hb2 (.own oc :: ms) (V.ref a :: vs) H2 outs Hb' H' → Post X.K c.T Hb2 ms vs (hid H2 a) outs.tail Hb' H' := fun {outs Hb' H'} p => by
      have sh := p.shape
      cases outs with
      | nil => exact False.elim sh
      | cons m os =>
        cases m with
        | val d => exact False.elim sh
        | own oc' =>
          refine ⟨p.b, p.s, fun b u e h1 h2 => ?_, fun b u e => p.n b u (hid_sub _ _ e), ?_, sh, p.tab⟩
          · have ne : b ≠ a := by rintro rfl; rw [hid_at] at e; cases e
            refine p.keep b u (hid_sub _ _ e) (fun z => ?_) h2
            have z : b ∈ a :: owns ms vs := z
            rcases List.mem_cons.mp z with z | z
            · exact ne z
            · exact h1 z
          · have pa := p.args
            cases pa with
            | cons _ r => exact r
    refine ⟨Hb2, .own oc :: ms, _, _, ⟨R3.sub, .cons ⟨a, rfl, hb2, hc2⟩ (MRs.mn ao.rel hid_sub), List.nodup_cons.mpr ⟨na, ao.nd nd⟩, fun P hP => ⟨(R3.tab P hP).1, (R3.tab P hP).2.1⟩⟩, q2, fun w outs qw v H' Hb' p ro => ?_, fun C fs outs qx d H' Hb' p xr => ?_⟩
    · have p' := toP p
      have R5 := R4.post ao p'
      have ro' : RO X.K Hb' (hid H2 a) H' w v := by
        cases w with
        | val d => exact ro
        | cel i => exact ro
        | tmp oc2 =>
          obtain ⟨a2, e, h1, h2, h3⟩ := ro
          refine ⟨a2, e, h1, ?_, h3⟩
          by_cases z : a2 = a
          · subst z; exact hid_at
          · rw [hid_ne z]; exact h2
      exact k w _ v H' Hb' ((s1.trans s2).trans p'.b) R5 (ro_rw R4 R5 (wb_own ao p'.shape) ro') qw
    · have p' := toP p
      exact px C fs _ d H' Hb' ((s1.trans s2).trans p'.b) (R4.post ao p') xr qx
theorem ve_fnT {x : Str} {k : Nat} {ps : List Str} {sp : VSp} {fa : Addr} {fd : FuncData} {p pos : Pos} {e : Expr} {es : List Expr} {t0 : TE} {v0 : VT} {t : TA} {v : VTA} (C : Callee X.prog X.w X.K X.mg X.base c.T x k ps sp fa fd) (hr : Room k X.A) (hx : L2N.Takes X Wx)
    (h0 : VE X c Wx e t0 v0) (ha : VA X c Wx es t v) (hg : Gl X x := by rfl) (hdb : (x == ("__debug__" : Str)) = false := by decide) (he : starEach (e :: es) X.env = (false, eval e X.env) :: starEach es X.env := by rfl) (hpl : (backTo pos (starEach es X.env)).any (·.1) = false := by rfl) :
    VE X c Wx (.Call (.Name x p) (e :: es) [] pos) (tCallSD (spOf X.K c.T sp) [] (WE Wx) (tCons t0 t)) (vCallT sp v0 v) := ve_callT C.ok hr C.g C.kp C.b (fun σ => L2N.passAt hx σ) h0 ha hg hdb he hpl
end
end VL
set_option Elab.async false
set_option linter.all false
set_option maxRecDepth 100000
set_option maxHeartbeats 4000000
namespace VL
open PySem PySem.Spec PyProof.Rows L2
variable [CM]
section
variable {K : PySem.W.Frag} {c : VC} {Wx : WX} {X : Cx}
def hasS (j i : Str) : Bool := !(Builtin.Str.occurrences j i 0 j.length 1).isEmpty
theorem hasS_one (j : Str) (n : Nat) : hasS j ⟨#[n]⟩ = decide (n ∈ j.cps.toList) := PySem.StrLaws.found_one j n
def dInSeq (neg : Bool) (d : D) (ds : List D) (Q : W → Prop) : Prop := (∃ (x : Str) (ss : List Str), d = .str x ∧ ds = ss.map D.str ∧ Q (.val (.bl (neg ^^ ss.any fun y => y == x)))) ∨ ∃ (x : Int) (ss : List Int), d = .int x ∧ ds = ss.map D.int ∧ Q (.val (.bl (neg ^^ ss.any fun y => y == x)))
@[simp] def dIn (neg : Bool) : G2
  | .str i, .str j, Q => Q (.val (.bl (neg ^^ hasS j i)))
  | d, .tup ds, Q => dInSeq neg d ds Q
  | d, .lst ds, Q => dInSeq neg d ds Q
  | _, _, _ => False
theorem RpL.strs {Hb : Hp} : ∀ {bs : List Str} {vs : List V}, RpL K Hb (bs.map D.str) vs → vs = bs.map V.str
  | [], _, h => by cases h; rfl
  | b :: bs, _, h => by
    cases h with
    | cons a r => cases a; rw [RpL.strs r]; rfl
theorem inV_strs (x : Str) : ∀ ss : List Str, inV (.str x) (ss.map V.str) = ss.any fun y => y == x
  | [] => rfl
  | s :: ss => by
    have ih := inV_strs x ss
    unfold inV at ih ⊢
    rw [List.map_cons, List.any_cons, List.any_cons, ih]
    rfl
theorem inV_ints (x : Int) : ∀ ss : List Int, inV (.int x) (ss.map V.int) = ss.any fun y => y == x
  | [] => rfl
  | s :: ss => by
    have ih := inV_ints x ss
    unfold inV at ih ⊢
    rw [List.map_cons, List.any_cons, List.any_cons, ih]
    rfl
theorem inSeq_ok {Hb H : Hp} {neg : Bool} {d : D} {ds : List D} {p : Addr} {v : V} {vs : List V} {Q : W → Prop} {Q' : VK} (s : Same Hb H) (hd : RR K Hb H d v) (hq : SqL K H p vs ∨ SqT K H p vs) (hr : RpL K Hb ds vs) (g : dInSeq neg d ds Q)
    (k : ∀ w v H' Hb', ExtH Hb H Hb' H' → RO K Hb' H H' w v → Q w → Q' v H') : rIn K neg v (.ref p) H Q' := by
  rcases g with ⟨x, ss, rfl, rfl, g⟩ | ⟨x, ss, rfl, rfl, g⟩
  · cases hd
    cases hr.strs
    refine ⟨p, _, rfl, hq, rfl, by simp [flatV], k (.val (.bl _)) _ _ _ (.refl s) ?_ g⟩
    rw [inV_strs]
    cases neg
    · simp; exact .bl _
    · simp; exact .bl _
  · cases hd
    cases hr.ints
    refine ⟨p, _, rfl, hq, rfl, by simp [flatV], k (.val (.bl _)) _ _ _ (.refl s) ?_ g⟩
    rw [inV_ints]
    cases neg
    · simp; exact .bl _
    · simp; exact .bl _
def rInAll (K : PySem.W.Frag) : R2 := fun x y H Q => (∃ i j, x = .str i ∧ y = .str j ∧ Q (.bl (!(Builtin.Str.occurrences j i 0 j.length 1).isEmpty)) H) ∨ rIn K false x y H Q
def rNinAll (K : PySem.W.Frag) : R2 := fun x y H Q => (∃ i j, x = .str i ∧ y = .str j ∧ Q (.bl (!(!(Builtin.Str.occurrences j i 0 j.length 1).isEmpty))) H) ∨ rIn K true x y H Q
theorem ops_in : OpS K (rInAll K) (dIn false) := by
  intro Hb H d1 d2 v1 v2 Q Q' s r1 r2 g k
  unfold dIn at g
  split at g
  · cases r1; cases r2
    exact .inl ⟨_, _, rfl, rfl, k (.val (.bl _)) _ _ _ (.refl s) (.bl _) (by simpa [hasS] using g)⟩
  · cases r2 with
    | tup s1 p1 => exact .inr (inSeq_ok s r1 (.inr (same_seqT s s1.1)) p1 g k)
  · cases r2 with
    | lst s1 p1 => exact .inr (inSeq_ok s r1 (.inl (.of s1)) p1 g k)
  · exact g.elim
theorem ops_nin : OpS K (rNinAll K) (dIn true) := by
  intro Hb H d1 d2 v1 v2 Q Q' s r1 r2 g k
  unfold dIn at g
  split at g
  · cases r1; cases r2
    exact .inl ⟨_, _, rfl, rfl, k (.val (.bl _)) _ _ _ (.refl s) (.bl _) (by simpa [hasS] using g)⟩
  · cases r2 with
    | tup s1 p1 => exact .inr (inSeq_ok s r1 (.inr (same_seqT s s1.1)) p1 g k)
  · cases r2 with
    | lst s1 p1 => exact .inr (inSeq_ok s r1 (.inl (.of s1)) p1 g k)
  · exact g.elim
variable {a b : Expr} {ta tb : TE} {va vb : VT} {pos : Pos}
def dJoin (a : Str) (d : D) (Q : W → Prop) : Prop := match d with
  | .tup ds => ∃ ss : List Str, ds = ss.map D.str ∧ (ss.map (·.length)).sum + ss.length * a.length ≤ 16777216 ∧ Q (.val (.str (Txt.join a ss)))
  | .lst ds => ∃ ss : List Str, ds = ss.map D.str ∧ (ss.map (·.length)).sum + ss.length * a.length ≤ 16777216 ∧ Q (.val (.str (Txt.join a ss)))
  | _ => False
@[simp] theorem dJoin_tup {a : Str} {ds : List D} {Q : W → Prop} : dJoin a (.tup ds) Q = ∃ ss : List Str, ds = ss.map D.str ∧ (ss.map (·.length)).sum + ss.length * a.length ≤ 16777216 ∧ Q (.val (.str (Txt.join a ss))) := rfl
@[simp] theorem dJoin_lst {a : Str} {ds : List D} {Q : W → Prop} : dJoin a (.lst ds) Q = ∃ ss : List Str, ds = ss.map D.str ∧ (ss.map (·.length)).sum + ss.length * a.length ≤ 16777216 ∧ Q (.val (.str (Txt.join a ss))) := rfl
def strW (w : W) (k : Str → Prop) : Prop := match w with
  | .val (.str a) => k a
  | _ => False
@[simp] theorem strW_s {a : Str} {k : Str → Prop} : strW (.val (.str a)) k = k a := rfl
@[simp] def vJoin (ta tb : VT) : VT := fun env Q QX => ta env (fun w1 env1 => strW w1 fun a => tb env1 (fun w2 env2 => rd w2 env2 fun d2 => dJoin a d2 fun w => Q w env2) QX) QX
theorem ve_join {o e : Expr} {to te : TE} {vo ve : VT} {apos pos : Pos} (ho : VE X c Wx o to vo) (he : VE X c Wx e te ve) (hs : starEach [e] X.env = [(false, eval e X.env)] := by rfl) (hbase : attributeBase o "join" X.env (eval o X.env) = eval o X.env := by rfl) (hline : (apos.endLine == pos.line) = true := by rfl) :
    VE X c Wx (.Call (.Attribute o "join" apos) [e] [] pos) (tM1 (fun x xs H Q => ∃ a p, ∃ ys : List Str, x = .str a ∧ xs = [.ref p] ∧ (SqL X.K H p (ys.map V.str) ∨ SqT X.K H p (ys.map V.str)) ∧
      (ys.map (·.length)).sum + ys.length * a.length ≤ 16777216 ∧ Q (.str (Txt.join a ys)) H) to te) (vJoin vo ve) := by
  refine ⟨pe_join ho.pe he.pe hs hbase hline, fun f Hb env σ H Q QX Q' R q px k => ?_⟩
  refine ho.sim f Hb env σ H _ QX _ R q px fun w1 env1 v1 H1 Hb1 s1 R1 r1 q1 => ?_
  unfold strW at q1
  split at q1
  · rename_i a
    have r1 : Rp X.K Hb1 (.str a) v1 := r1
    cases r1
    refine ⟨⟨_, rfl⟩, ?_⟩
    refine he.sim f Hb1 env1 σ H1 _ QX _ R1 q1 (px.mn s1) fun w2 env2 v2 H2 Hb2 s2 R2 r2 q2 => ?_
    obtain ⟨d2, e2, q2⟩ := rd_of q2
    have rr2 := R2.rd r2 e2
    unfold dJoin at q2
    split at q2
    · obtain ⟨ss, rfl, hz, q2⟩ := q2
      cases rr2 with
      | tup g1 p1 =>
        cases p1.strs
        exact ⟨_, _, ss, rfl, rfl, .inr (same_seqT R2.sub g1.1), hz, k (.val (.str _)) _ _ _ _ (s1.trans s2) R2 (.str _) q2⟩
    · obtain ⟨ss, rfl, hz, q2⟩ := q2
      cases rr2 with
      | lst g1 p1 =>
        cases p1.strs
        exact ⟨_, _, ss, rfl, rfl, .inl (.of g1), hz, k (.val (.str _)) _ _ _ _ (s1.trans s2) R2 (.str _) q2⟩
    · exact q2.elim
  · exact q1.elim
@[simp] def dMax3 : GN
  | [.int i, .int j, .int k], Q => Q (.val (.int (if (if i < j then j else i) < k then k else (if i < j then j else i))))
  | _, _ => False
theorem paired3 {α β : Type} {F : α → β → Prop} {a a' a'' : α} {bs : List β} (h : Paired F [a, a', a''] bs) : ∃ b b' b'', bs = [b, b', b''] ∧ F a b ∧ F a' b' ∧ F a'' b'' := by
  cases h with
  | cons p r => obtain ⟨b, b', rfl, q, q'⟩ := paired2 r; exact ⟨_, _, _, rfl, p, q, q'⟩
theorem calls_max3 : CallS K (rNuC3 nuMax3) dMax3 := by
  intro Hb H ds vs Q Q' s p g k
  unfold dMax3 at g
  split at g
  · rename_i i j l
    obtain ⟨v, v', v'', rfl, r, r', r''⟩ := paired3 p
    cases r; cases r'; cases r''
    refine ⟨_, _, _, .int (if (if i < j then j else i) < l then l else (if i < j then j else i)), rfl, ?_, k (.val (.int _)) _ _ _ (.refl s) (.int _) g⟩
    unfold nuMax3 nuMax2 nuLt nuCB
    by_cases h1 : i < j
    · by_cases h2 : j < l <;> simp [h1, h2]
    · by_cases h2 : i < l <;> simp [h1, h2]
  · exact g.elim
theorem ve_max3 {p : Pos} {d : Expr} {t : TA} {v : VTA} (hm : X.mg "max" = none) (ha : VA X c Wx [a, b, d] t v) (hc : X.calm = true := by rfl) (hg : Gl X "max" := by rfl) (he : starEach [a, b, d] X.env = (false, eval a X.env) :: starEach [b, d] X.env := by rfl) (hpl : (backTo pos (starEach [b, d] X.env)).any (·.1) = false := by rfl) : VE X c Wx (.Call (.Name "max" p) [a, b, d] [] pos) (tCB (rNuC3 nuMax3) t) (vCB dMax3 v) := ve_callB (call_max3Nu hc) calls_max3 hm (by decide +kernel) ha hg (by decide) (by decide) he hpl
end
theorem glob_str {K : PySem.W.Frag} {mg : Str → Option Value} {x y : Str} {t : Nat} (h : mg x = some (.str y t)) : GlobK K mg x (.str y) (.str y) := ⟨⟨_, h, ⟨_, rfl⟩⟩, fun H => .str y⟩
theorem glob_int {K : PySem.W.Frag} {mg : Str → Option Value} {x : Str} {i : Int} {t : Nat} (h : mg x = some (.int i t)) : GlobK K mg x (.int i) (.int i) := ⟨⟨_, h, ⟨_, rfl⟩⟩, fun H => .int i⟩
end VL
set_option Elab.async false
set_option linter.all false
set_option maxRecDepth 100000
set_option maxHeartbeats 4000000
namespace VL
open PySem PySem.Spec PyProof.Rows L2
variable [CM]
section
variable {K : PySem.W.Frag} {c : VC} {Wx : WX} {X : Cx}
abbrev VMT := Env → VX → VX → Prop
def SimM (K : PySem.W.Frag) (c : VC) (Wx : WX) (te : L2.St → Hp → XK → Prop) (t : VMT) : Prop := ∀ (f : Fm) (Hb : Hp) (env : Env) (σ : L2.St) (H : Hp) (Q QX : VX) (Q' : XK), Rl K c f Hb env σ H → t env Q QX → PX K c f Wx Hb σ QX →
  (∀ C fs env' d H' Hb', Same Hb Hb' → Rl K c f Hb' env' σ H' → XR K C Hb' H' d fs → Q C fs env' → Q' (.ref (CM.at_ C)) d H') → te σ H Q'
structure VMk (X : Cx) (c : VC) (Wx : WX) (e : Expr) (te : L2.St → Hp → XK → Prop) (t : VMT) : Prop where
  pm : L2N.PMk X e te
  sim : SimM X.K c Wx te t
@[simp] def vRaise (t : VMT) : VS := fun DV env => t env DV.ex DV.ex
theorem vst_raise {e : Expr} {te : L2.St → Hp → XK → Prop} {t : VMT} {pos : Pos} (tk : L2N.Takes X Wx) (h : VMk X c Wx e te t) (hc : X.calm = true := by rfl) : VSt X c Wx (.Raise (some e) none pos) (fun _ σ H => te σ H fun cls d H' => Wx cls d σ H') (vRaise t) :=
  ⟨L2N.ps_raise hc tk h.pm, fun f Hb env σ H DV D R q e => h.sim f Hb env σ H DV.ex DV.ex _ R q e.px fun C fs env' d H' Hb' s R' x qx => e.ex C fs env' d σ H' Hb' s R' x qx⟩
theorem RpL.ofStrs {H : Hp} : ∀ ss : List Str, RpL K H (ss.map D.str) (ss.map V.str)
  | [] => .nil
  | s :: ss => .cons (.str s) (RpL.ofStrs ss)
theorem strW_of {w : W} {k : Str → Prop} (h : strW w k) : ∃ a, w = .val (.str a) ∧ k a := by
  unfold strW at h
  split at h
  · exact ⟨_, rfl, h⟩
  · exact h.elim
@[simp] def vSplit (ta tb : VT) : VT := fun env Q QX => ta env (fun w1 env1 => strW w1 fun a => tb env1 (fun w2 env2 => strW w2 fun b => (b.length == 0) = false ∧ a.length + 2 ≤ sizeLine ∧ Q (.tmp (.lst ((Txt.split a b).map D.str))) env2) QX) QX
theorem ve_split {o e : Expr} {to te : TE} {vo ve : VT} {apos pos : Pos} (ho : VE X c Wx o to vo) (he : VE X c Wx e te ve) (hs : starEach [e] X.env = [(false, eval e X.env)] := by rfl) (hbase : attributeBase o "split" X.env (eval o X.env) = eval o X.env := by rfl) (hline : (apos.endLine == pos.line) = true := by rfl) :
    VE X c Wx (.Call (.Attribute o "split" apos) [e] [] pos) (tM1 (fun x xs H Q => ∃ a b, x = .str a ∧ xs = [.str b] ∧ (b.length == 0) = false ∧ a.length + 2 ≤ sizeLine ∧ rNewStrs (Txt.split a b) H Q) to te) (vSplit vo ve) := by
  refine ⟨pe_split ho.pe he.pe hs hbase hline, fun f Hb env σ H Q QX Q' R q px k => ?_⟩
  refine ho.sim f Hb env σ H _ QX _ R q px fun w1 env1 v1 H1 Hb1 s1 R1 r1 q1 => ?_
  obtain ⟨a, rfl, q1⟩ := strW_of q1
  have r1 : Rp X.K Hb1 (.str a) v1 := r1
  cases r1
  refine ⟨⟨_, rfl⟩, ?_⟩
  refine he.sim f Hb1 env1 σ H1 _ QX _ R1 q1 (px.mn s1) fun w2 env2 v2 H2 Hb2 s2 R2 r2 q2 => ?_
  obtain ⟨b, rfl, h1, h2, q2⟩ := strW_of q2
  have r2 : Rp X.K Hb2 (.str b) v2 := r2
  cases r2
  refine ⟨a, b, rfl, rfl, h1, h2, fun p np => ?_⟩
  obtain ⟨R4, ro⟩ := R2.newL np (RpL.ofStrs (K := X.K) (H := Hb2) (Txt.split a b))
  exact k (.tmp (.lst _)) _ _ _ _ (s1.trans s2) R4 ro q2
def dSorted : GN
  | [.lst ds], Q => (∃ ss : List Str, ds = ss.map D.str ∧ ss.length < 64 ∧ ∀ ys : List Str, ys.Perm ss → sortedS ys = true → Q (.tmp (.lst (ys.map D.str)))) ∨
      ∃ ns : List Int, ds = ns.map D.int ∧ ns.length < 64 ∧ ∀ ys : List Int, ys.Perm ns → ys.Pairwise (· ≤ ·) → Q (.tmp (.lst (ys.map D.int)))
  | _, _ => False
theorem calls_sorted : CallS K (fun xs H Q => rSortedS K xs H Q ∨ rSorted K xs H Q) dSorted := by
  intro Hb H ds vs Q Q' s p g k
  unfold dSorted at g
  split at g
  · obtain ⟨v, rfl, r⟩ := paired1 p
    cases r with
    | lst s1 p1 =>
      rcases g with ⟨ss, rfl, hz, g⟩ | ⟨ss, rfl, hz, g⟩
      · cases p1.strs
        exact .inl ⟨_, ss, rfl, .of s1, hz, fun ys l h1 h2 nl => k (.tmp (.lst _)) _ _ _ (ExtH.newT s nl) (RO.lstN s nl (RpL.ofStrs ys)) (g ys h1 h2)⟩
      · cases p1.ints
        exact .inr ⟨_, ss, rfl, .of s1, hz, fun ys l h1 h2 nl => k (.tmp (.lst _)) _ _ _ (ExtH.newT s nl) (RO.lstN s nl (RpL.ofInts ys)) (g ys h1 h2)⟩
  · exact g.elim
theorem ve_sorted {e : Expr} {p pos : Pos} {t : TA} {v : VTA} (hm : X.mg "sorted" = none) (ha : VA X c Wx [e] t v) (hg : Gl X "sorted" := by rfl) (he : starEach [e] X.env = (false, eval e X.env) :: starEach [] X.env := by rfl) (hpl : (backTo pos (starEach [] X.env)).any (·.1) = false := by rfl) : VE X c Wx (.Call (.Name "sorted" p) [e] [] pos) (tCB (fun xs H Q => rSortedS X.K xs H Q ∨ rSorted X.K xs H Q) t) (vCB dSorted v) := ve_callB (CallR.or cr_sortedS cr_sorted) calls_sorted hm (by decide +kernel) ha hg (by decide) (by decide) he hpl
end
end VL
set_option Elab.async false
set_option linter.all false
set_option maxRecDepth 100000
set_option maxHeartbeats 4000000
namespace VL
open PySem PySem.Spec PyProof.Rows L2
variable [CM]
section
variable {K : PySem.W.Frag} {c : VC} {Wx : WX} {X : Cx}
def fldD (C : Str) (f : Str) (d : D) (Q : D → Prop) : Prop := match d with
  | .obj C' fs => C' = C ∧ ∃ d', fs.lookup f = some d' ∧ Q d'
  | _ => False
@[simp] theorem fldD_obj {C C' : Str} {f : Str} {fs : List (Str × D)} {Q : D → Prop} : fldD C f (.obj C' fs) Q = (C' = C ∧ ∃ d', fs.lookup f = some d' ∧ Q d') := rfl
@[simp] def vFld (C : Str) (f : Str) (t : VT) : VT := fun env Q QX => t env (fun w env1 => rd w env1 fun d => fldD C f d fun d' => Q (.val d') env1) QX
theorem ve_fld {e : Expr} {f : Str} {te : TE} {t : VT} {pos : Pos} {C : Str} (cC : Cls X.K (CM.at_ C)) (nA : NoAttr X.K (CM.at_ C) f) (he : VE X c Wx e te t) (hb : attributeBase e f X.env (eval e X.env) = eval e X.env := by rfl) : VE X c Wx (.Attribute e f pos) (tFld X.K te f) (vFld C f t) := by
  refine ⟨pe_fld he.pe hb, fun fr Hb env σ H Q QX Q' R q px k => ?_⟩
  refine he.sim fr Hb env σ H _ QX _ R q px fun w1 env1 v1 H1 Hb1 s1 R1 r1 q1 => ?_
  obtain ⟨d, e1, q1⟩ := rd_of q1
  have rr := R1.rd r1 e1
  unfold fldD at q1
  split at q1
  · obtain ⟨rfl, d', h1, q1⟩ := q1
    cases rr with
    | obj g1 g2 =>
      obtain ⟨v, h2, h3⟩ := g2.look h1
      exact ⟨_, _, _, _, v, rfl, g1, cC, nA, h2, k (.val d') _ _ _ _ s1 R1 h3 q1⟩
  · exact q1.elim
theorem Rl.writeO {f : Fm} {Hb H : Hp} {env : Env} {σ : L2.St} {j : Nat} {oc oc2 : OC} {o2 : HO} {a : Addr} (R : Rl K c f Hb env σ H) (hj : env[j]? = some (some (.own oc))) (hs : σ[j]? = some (some (.ref a))) (r : ∀ H', H' a = some o2 → Cont K Hb H' a oc2) : Rl K c f Hb (env.set j (some (.own oc2))) σ (upd H a o2) := by
  obtain ⟨a', h1, h2, h3, h4⟩ := R.own hj
  rw [hs] at h1; cases h1
  refine ⟨by simpa using R.len, fun {i d} e => ?_, fun {i oc} e => ?_, fun {i k o1 o2 b} e1 e2 e3 e4 => ?_, fun b o e => ?_, fun b o e => ?_, R.frb, fun P hP => ?_, R.fix, R.xv⟩
  · rcases set_get e with ⟨_, e2⟩ | ⟨ne, e2⟩
    · cases e2
    · exact R.val e2
  · rcases set_get e with ⟨ee, e2⟩ | ⟨ne, e2⟩
    · cases e2
      subst ee
      exact ⟨a, hs, h2, h3, r _ upd_same⟩
    · obtain ⟨b, g1, g2, g3, g4⟩ := R.own e2
      have nb : b ≠ a := by
        rintro rfl
        exact ne (R.inj hj e2 hs g1)
      exact ⟨b, g1, g2, g3, g4.mn (Same.refl _) fun o q => by rw [upd_ne nb]; exact q⟩
  · have own : ∀ {k : Nat} {o : OC}, (env.set j (some (.own oc2)))[k]? = some (some (.own o)) → ∃ o', env[k]? = some (some (.own o')) := fun {k o} e => by
      rcases set_get e with ⟨ee, e2⟩ | ⟨ne, e2⟩
      · subst ee; exact ⟨_, hj⟩
      · exact ⟨_, e2⟩
    obtain ⟨_, y1⟩ := own e1
    obtain ⟨_, y2⟩ := own e2
    exact R.inj y1 y2 e3 e4
  · rw [upd_ne (ne_of_none e h2)]; exact R.sub _ _ e
  · rw [upd_ne (ne_of_none e h3)]; exact R.frm _ _ e
  · obtain ⟨t1, t2, t3⟩ := R.tab P hP
    obtain ⟨ps, e, z⟩ := id t1
    exact ⟨⟨ps, by rw [upd_ne (h4.notab t1.g)]; exact e, z⟩, t2, t3⟩
def putD (f : Str) (d : D) : List (Str × D) → List (Str × D)
  | [] => [(f, d)]
  | (g, x) :: r => if g = f then (g, d) :: r else (g, x) :: putD f d r
theorem RpF.put {H : Hp} {f : Str} {d : D} {v : V} (h : Rp K H d v) : ∀ {fs : List (Str × D)} {gs : List (Str × V)}, RpF K H fs gs → RpF K H (putD f d fs) (putF f v gs)
  | [], _, r => by cases r; exact .cons h .nil
  | (g, x) :: r, _, q => by
    cases q with
    | cons a b =>
      unfold putD putF
      by_cases z : g = f
      · rw [if_pos z, if_pos z]; exact .cons h b
      · rw [if_neg z, if_neg z]; exact .cons a (RpF.put h b)
theorem RpF.len {H : Hp} : ∀ {fs : List (Str × D)} {gs : List (Str × V)}, RpF K H fs gs → gs.length = fs.length
  | [], _, r => by cases r; rfl
  | _ :: _, _, r => by cases r with | cons a b => simp [RpF.len b]
def stF (C : Str) (f : Str) (d : D) (w : W) (env : Env) (Q : Env → Prop) : Prop := match w with
  | .cel j => match env[j]? with
    | some (some (.own (.ins C' fs))) => C' = C ∧ fs.length < 1000 ∧ Q (env.set j (some (.own (.ins C' (putD f d fs)))))
    | _ => False
  | _ => False
@[simp] def vStFld (C : Str) (f : Str) (o t : VT) : VS := fun DV env => t env (fun w env1 => fz w env1 fun d env2 => o env2 (fun w2 env3 => stF C f d w2 env3 DV.nx) DV.ex) DV.ex
theorem vst_fld {o e : Expr} {f : Str} {to te : TE} {vo t : VT} {pos pos' : Pos} {C : Str} (cC : Cls X.K (CM.at_ C)) (nA : NoAttr X.K (CM.at_ C) f) (ho : VE X c Wx o to vo) (he : VE X c Wx e te t) (hs : swapsWith e (some (.Attribute o f pos')) pos.line X.env = pure false := by rfl) : VSt X c Wx (.Assign [.Attribute o f pos'] e pos) (sFld X.K to te f) (vStFld C f vo t) := by
  refine ⟨ps_fld ho.pe he.pe hs, fun fr Hb env σ H DV Dn R q en => ?_⟩
  refine he.sim fr Hb env σ H _ _ _ R q en.px fun w1 env1 v1 H1 Hb1 s1 R1 r1 q1 => ?_
  obtain ⟨d, env2, Hb2, s2, R2, r2, q2⟩ := R1.fz r1 q1
  refine ho.sim fr Hb2 env2 σ H1 _ _ _ R2 q2 (en.px.mn (s1.trans s2)) fun w2 env3 v2 H3 Hb3 s3 R3 r3 q3 => ?_
  unfold stF at q3
  split at q3
  · rename_i j
    have r3 : σ[j]? = some (some v2) := r3
    split at q3
    · rename_i C' fs hj
      obtain ⟨rfl, hz, q3⟩ := q3
      obtain ⟨a, h1, h2, h3, dx, gs, ha, hr⟩ := R3.own hj
      rw [r3] at h1; cases h1
      refine ⟨a, _, dx, gs, rfl, ha, cC, nA, by rw [hr.len]; exact hz, ?_⟩
      exact en.nx _ _ _ _ ((s1.trans s2).trans s3) (R3.writeO (oc2 := .ins _ (putD f d fs)) hj r3 fun H' e => ⟨dx, _, e, RpF.put (r2.mn s3) hr⟩) q3
    · exact q3.elim
  · exact q3.elim
end
end VL
set_option Elab.async false
set_option linter.all false
set_option maxRecDepth 100000
set_option maxHeartbeats 4000000
namespace VL
noncomputable section
open PySem PySem.Spec PyProof.Rows L2
variable [CM]
inductive R (σ α : Type) where
  | ok (a : α) (s : σ)
  | ex (C : Str) (fs : List (Str × D)) (s : σ)
  | no
abbrev ME := Env → R Env W
abbrev MT := Env → R Env Bool
abbrev MA := Env → R Env (List W)
abbrev MI := Env → R Env (List D)
abbrev MO := Env → R Env (Option Int)
abbrev FN := List M → R (List M) W
def R.po {α : Type} (r : R Env α) (Q : α → Env → Prop) (QX : VX) : Prop := match r with
  | .ok a s => Q a s
  | .ex C fs s => QX C fs s
  | .no => False
def vR {α : Type} (m : Env → R Env α) : Env → (α → Env → Prop) → VX → Prop := fun env Q QX => (m env).po Q QX
section
variable {σ α β γ : Type}
def bd (k : α → σ → R σ β) : R σ α → R σ β
  | .ok a s => k a s
  | .ex C fs s => .ex C fs s
  | .no => .no
@[simp] theorem bd_c1 (k : α → σ → R σ β) (a s) : bd k (.ok a s) = k a s := rfl
@[simp] theorem bd_c2 (k : α → σ → R σ β) (C fs s) : bd k (.ex C fs s) = .ex C fs s := rfl
@[simp] theorem bd_c3 (k : α → σ → R σ β) : bd k .no = .no := rfl
def mp (g : α → β) : R σ α → R σ β
  | .ok a s => .ok (g a) s
  | .ex C fs s => .ex C fs s
  | .no => .no
@[simp] theorem mp_c1 (g : α → β) (a : α) (s : σ) : mp g (.ok a s) = .ok (g a) s := rfl
@[simp] theorem mp_c2 (g : α → β) (C : Str) (fs : List (Str × D)) (s : σ) : mp g (.ex C fs s) = .ex C fs s := rfl
@[simp] theorem mp_c3 (g : α → β) : mp g (.no : R σ α) = .no := rfl
def sq (f : σ → R σ β) (g : α → β → γ) : R σ α → R σ γ
  | .ok a s => mp (g a) (f s)
  | .ex C fs s => .ex C fs s
  | .no => .no
@[simp] theorem sq_c1 (f : σ → R σ β) (g : α → β → γ) (a s) : sq f g (.ok a s) = mp (g a) (f s) := rfl
@[simp] theorem sq_c2 (f : σ → R σ β) (g : α → β → γ) (C fs s) : sq f g (.ex C fs s) = .ex C fs s := rfl
@[simp] theorem sq_c3 (f : σ → R σ β) (g : α → β → γ) : sq f g .no = .no := rfl
theorem po_bd {k : α → Env → R Env β} {r : R Env α} {Q : β → Env → Prop} {QX : VX} (h : (bd k r).po Q QX) : r.po (fun a e => (k a e).po Q QX) QX := by
  cases r <;> exact h
theorem po_mp {g : α → β} {r : R Env α} {Q : β → Env → Prop} {QX : VX} (h : (mp g r).po Q QX) : r.po (fun a e => Q (g a) e) QX := by
  cases r <;> exact h
theorem po_sq {f : Env → R Env β} {g : α → β → γ} {r : R Env α} {Q : γ → Env → Prop} {QX : VX} (h : (sq f g r).po Q QX) : r.po (fun a e => (f e).po (fun b e => Q (g a b) e) QX) QX := by
  cases r with
  | ok a e => exact po_mp h
  | ex C fs s => exact h
  | no => exact h
theorem po_mono {r : R Env α} {Q Q' : α → Env → Prop} {QX : VX} (h : r.po Q QX) (k : ∀ a e, Q a e → Q' a e) : r.po Q' QX := by
  cases r with
  | ok a s => exact k _ _ h
  | ex C fs s => exact h
  | no => exact h
end
noncomputable def cif {α : Type} (p : Prop) (a b : α) : α := @ite α p (Classical.propDecidable p) a b
theorem cif_pos {α : Type} {p : Prop} {a b : α} (h : p) : cif p a b = a := by unfold cif; exact if_pos h
theorem cif_neg {α : Type} {p : Prop} {a b : α} (h : ¬p) : cif p a b = b := by unfold cif; exact if_neg h
noncomputable def lim {α : Type} (n : Nat) (x : α) : Option α := cif (n ≤ sizeLine) (some x) none
@[simp] theorem lim_of {α : Type} {n : Nat} {x : α} (h : n ≤ 16777216) : lim n x = some x := cif_pos h
theorem lim_some {α : Type} {n : Nat} {x y : α} (h : lim n x = some y) : n ≤ sizeLine ∧ y = x := by
  unfold lim at h
  by_cases hn : n ≤ sizeLine
  · rw [cif_pos hn] at h; cases h; exact ⟨hn, rfl⟩
  · rw [cif_neg hn] at h; cases h
noncomputable def chk {α : Type} (p : Prop) (x : α) : Option α := open Classical in if p then some x else none
theorem chk_of {α : Type} {p : Prop} {x : α} (h : p) : chk p x = some x := if_pos h
theorem chk_some {α : Type} {p : Prop} {x y : α} (h : chk p x = some y) : p ∧ y = x := by
  unfold chk at h
  split at h
  · rename_i hn; cases h; exact ⟨hn, rfl⟩
  · cases h
def fzMC (i : Nat) (e : Env) : Option (Option M) → R Env D
  | some (some (.val d)) => .ok d e
  | some (some (.own oc)) => .ok oc.fz (e.set i (some (.val oc.fz)))
  | _ => .no
@[simp] theorem fzMC_c1 (i : Nat) (e : Env) (d) : fzMC i e (some (some (.val d))) = .ok d e := rfl
@[simp] theorem fzMC_c2 (i : Nat) (e : Env) (oc) : fzMC i e (some (some (.own oc))) = .ok oc.fz (e.set i (some (.val oc.fz))) := rfl
def fzM : W → Env → R Env D
  | .val d, e => .ok d e
  | .tmp oc, e => .ok oc.fz e
  | .cel i, e => fzMC i e e[i]?
@[simp] theorem fzM_c1  (d e) : fzM (.val d) e = .ok d e := rfl
@[simp] theorem fzM_c2  (oc e) : fzM (.tmp oc) e = .ok oc.fz e := rfl
@[simp] theorem fzM_c3  (i e) : fzM (.cel i) e = fzMC i e e[i]? := rfl
theorem po_fz {w : W} {e : Env} {k : D → Env → Prop} {QX : VX} (h : (fzM w e).po k QX) : fz w e k := by
  cases w with
  | val d => exact h
  | tmp oc => exact h
  | cel i =>
    simp only [fzM] at h
    rw [fz_cel]
    generalize e[i]? = o at h
    rcases o with _ | _ | d | oc <;> exact h
@[simp] def fzsM : List W → Env → R Env (List D)
  | [], e => .ok [] e
  | w :: ws, e => sq (fzsM ws) List.cons (fzM w e)
theorem po_fzs {QX : VX} : ∀ {ws : List W} {e : Env} {k : List D → Env → Prop}, (fzsM ws e).po k QX → fzs ws e k
  | [], e, k, h => h
  | w :: ws, e, k, h => po_fz (po_mono (po_sq h) fun d e1 h1 => po_fzs h1)
@[simp] def rdsM : List W → Env → Option (List D)
  | [], _ => some []
  | w :: ws, e => match view w e, rdsM ws e with
    | some d, some ds => some (d :: ds)
    | _, _ => none
theorem rds_of : ∀ {ws : List W} {e : Env} {ds : List D} {k : List D → Prop}, rdsM ws e = some ds → k ds → rds ws e k
  | [], e, ds, k, h, q => by cases h; exact q
  | w :: ws, e, ds, k, h, q => by
    unfold rdsM at h
    split at h
    · rename_i d ds' h1 h2
      cases h
      show rd w e _
      unfold rd
      rw [h1]
      exact rds_of h2 q
    · cases h
section
variable {K : PySem.W.Frag} {c : VC} {Wx : WX} {X : Cx}
abbrev FE (X : Cx) (c : VC) (Wx : WX) (e : Expr) (te : TE) (m : ME) : Prop := VE X c Wx e te (vR m)
abbrev FTe (X : Cx) (c : VC) (Wx : WX) (e : Expr) (te : TT) (m : MT) : Prop := VTe X c Wx e te (vR m)
abbrev FW (X : Cx) (c : VC) (Wx : WX) (e : Expr) (te : TT) (m : MT) : Prop := VW X c Wx e te (vR m)
abbrev FA (X : Cx) (c : VC) (Wx : WX) (es : List Expr) (te : TA) (m : MA) : Prop := VA X c Wx es te (vR m)
abbrev FO (X : Cx) (c : VC) (Wx : WX) (e : Option Expr) (te : TO) (m : MO) : Prop := VO X c Wx e te (vR m)
theorem VE.weak {e : Expr} {te : TE} {t t' : VT} (h : VE X c Wx e te t) (hw : ∀ env Q QX, t' env Q QX → t env Q QX) : VE X c Wx e te t' :=
  ⟨h.pe, fun f Hb env σ H Q QX Q' R q px k => h.sim f Hb env σ H Q QX Q' R (hw _ _ _ q) px k⟩
theorem VTe.weak {e : Expr} {te : TT} {t t' : VTT} (h : VTe X c Wx e te t) (hw : ∀ env Q QX, t' env Q QX → t env Q QX) : VTe X c Wx e te t' :=
  ⟨h.pt, fun f Hb env σ H Q QX Q' R q px k => h.sim f Hb env σ H Q QX Q' R (hw _ _ _ q) px k⟩
theorem VW.weak {e : Expr} {te : TT} {t t' : VTT} (h : VW X c Wx e te t) (hw : ∀ env Q QX, t' env Q QX → t env Q QX) : VW X c Wx e te t' :=
  ⟨h.pw, fun f Hb env σ H Q QX Q' R q px k => h.sim f Hb env σ H Q QX Q' R (hw _ _ _ q) px k⟩
theorem VA.weak {e : List Expr} {te : TA} {t t' : VTA} (h : VA X c Wx e te t) (hw : ∀ env Q QX, t' env Q QX → t env Q QX) : VA X c Wx e te t' :=
  ⟨h.pa, fun f Hb env σ H Q QX Q' R q px k => h.sim f Hb env σ H Q QX Q' R (hw _ _ _ q) px k⟩
theorem VO.weak {e : Option Expr} {te : TO} {t t' : VTO} (h : VO X c Wx e te t) (hw : ∀ env Q QX, t' env Q QX → t env Q QX) : VO X c Wx e te t' :=
  ⟨h.po, fun f Hb env σ H Q QX Q' R q px k => h.sim f Hb env σ H Q QX Q' R (hw _ _ _ q) px k⟩
theorem VIt.weak {tg e : Expr} {te : TI} {t t' : VI} (h : VIt X c Wx tg e te t) (hw : ∀ env Q QX, t' env Q QX → t env Q QX) : VIt X c Wx tg e te t' :=
  ⟨h.pi, fun f Hb env σ H Q QX Q' R q px k => h.sim f Hb env σ H Q QX Q' R (hw _ _ _ q) px k⟩
def nmC (i : Nat) (e : Env) : Option (Option M) → R Env W
  | some (some (.val d)) => .ok (.val d) e
  | some (some (.own _)) => .ok (.cel i) e
  | _ => .no
@[simp] theorem nmC_c1 (i : Nat) (e : Env) (d) : nmC i e (some (some (.val d))) = .ok (.val d) e := rfl
@[simp] theorem nmC_c2 (i : Nat) (e : Env) (x1) : nmC i e (some (some (.own x1))) = .ok (.cel i) e := rfl
@[simp] def mName (i : Nat) (e : Env) : R Env W := nmC i e e[i]?
@[simp] def mC (d : D) (e : Env) : R Env W := .ok (.val d) e
theorem fe_name (i : Nat) {x : Str} {pos : Pos} (hN : X.N[i]? = some x := by rfl) (hv : Vis X.env.scope x := by first | exact Or.inl rfl | exact Or.inr (Or.inl rfl) | exact Or.inr (Or.inr rfl)) (hd : (x == ("__debug__" : Str)) = false := by decide)
    (hcd : (x == ("__classdict__" : Str)) = false := by decide) : FE X c Wx (.Name x pos) (tVar i) (mName i) :=
  (ve_name i hN hv hd hcd).weak fun env Q QX h => by
    have h : (mName i env).po Q QX := h
    simp only [mName] at h
    simp only [vName]
    generalize env[i]? = o at h ⊢
    rcases o with _ | _ | d | oc <;> exact h
theorem fe_c {e : Expr} {te : TE} {d : D} (h : VE X c Wx e te (vC d)) : FE X c Wx e te (mC d) := h.weak fun env Q QX h => h
theorem fe_int {i : Int} {j pos} : FE X c Wx (.Constant (.int i) j pos) (tC (.int i)) (mC (.int i)) := fe_c ve_int
theorem fe_bl {b : Bool} {j pos} : FE X c Wx (.Constant (.bool b) j pos) (tC (.bl b)) (mC (.bl b)) := fe_c ve_bl
theorem fe_non {j pos} : FE X c Wx (.Constant .none j pos) (tC .non) (mC .non) := fe_c ve_non
theorem fe_str {x : Str} {j pos} : FE X c Wx (.Constant (.str x) j pos) (tC (.str x)) (mC (.str x)) := fe_c ve_str
theorem fe_gl {x : Str} {d : D} {v : V} {pos : Pos} (G : GlobK X.K X.mg x d v) (hg : Gl X x := by rfl) (hd : (x == ("__debug__" : Str)) = false := by decide) : FE X c Wx (.Name x pos) (tC v) (mC d) := fe_c (ve_gl G hg hd)
abbrev F2 := D → D → Option W
def OpF (f : F2) (g : G2) : Prop := ∀ d1 d2 w (Q : W → Prop), f d1 d2 = some w → Q w → g d1 d2 Q
def opR (e : Env) : Option W → R Env W
  | some w => .ok w e
  | none => .no
@[simp] theorem opR_c1 (e : Env) (w) : opR e (some w) = .ok w e := rfl
@[simp] theorem opR_c2 (e : Env) : opR e none = .no := rfl
def op3 (f : F2) (e : Env) : Option D → Option D → R Env W
  | some d1, some d2 => opR e (f d1 d2)
  | _, _ => .no
@[simp] theorem op3_c1 (f : F2) (e : Env) (d1 d2) : op3 f e (some d1) (some d2) = opR e (f d1 d2) := rfl
def op2 (f : F2) (w1 : W) : R Env W → R Env W
  | .ok w e => op3 f e (view (fzv w1) e) (view w e)
  | .ex C fs s => .ex C fs s
  | .no => .no
@[simp] theorem op2_c1 (f : F2) (w1 : W) (w e) : op2 f w1 (.ok w e) = op3 f e (view (fzv w1) e) (view w e) := rfl
@[simp] theorem op2_c2 (f : F2) (w1 : W) (C fs s) : op2 f w1 (.ex C fs s) = .ex C fs s := rfl
@[simp] theorem op2_c3 (f : F2) (w1 : W) : op2 f w1 .no = .no := rfl
def op1 (f : F2) (b : ME) : R Env W → R Env W
  | .ok w e => op2 f w (b e)
  | .ex C fs s => .ex C fs s
  | .no => .no
@[simp] theorem op1_c1 (f : F2) (b : ME) (w e) : op1 f b (.ok w e) = op2 f w (b e) := rfl
@[simp] theorem op1_c2 (f : F2) (b : ME) (C fs s) : op1 f b (.ex C fs s) = .ex C fs s := rfl
@[simp] theorem op1_c3 (f : F2) (b : ME) : op1 f b .no = .no := rfl
@[simp] def mOp (f : F2) (a b : ME) (e : Env) : R Env W := op1 f b (a e)
theorem po_op3 {f : F2} {g : G2} (hf : OpF f g) {e : Env} {w1 w2 : W} {Q : VQ} {QX : VX} (h : (op3 f e (view w1 e) (view w2 e)).po Q QX) : rd w1 e fun d1 => rd w2 e fun d2 => g d1 d2 fun w => Q w e := by
  unfold rd
  cases h1 : view w1 e with
  | none => rw [h1] at h; exact h
  | some d1 =>
    cases h2 : view w2 e with
    | none => rw [h1, h2] at h; exact h
    | some d2 =>
      rw [h1, h2] at h
      simp only [op3] at h
      cases h3 : f d1 d2 with
      | none => rw [h3] at h; exact h.elim
      | some w => rw [h3] at h; exact hf d1 d2 w _ h3 h
theorem po_op {f : F2} {g : G2} (hf : OpF f g) {a b : ME} {env : Env} {Q : VQ} {QX : VX} (h : vR (mOp f a b) env Q QX) : vOp g (vR a) (vR b) env Q QX := by
  have h : (op1 f b (a env)).po Q QX := h
  show (a env).po _ QX
  cases ha : a env with
  | ex C fs s => rw [ha] at h; exact h
  | no => rw [ha] at h; exact h
  | ok w1 e1 =>
    rw [ha] at h
    have h : (op2 f w1 (b e1)).po Q QX := h
    show (b e1).po _ QX
    cases hb : b e1 with
    | ex C fs s => rw [hb] at h; exact h
    | no => rw [hb] at h; exact h
    | ok w2 e2 =>
      rw [hb] at h
      exact po_op3 hf h
section
variable {a b : Expr} {ta tb : TE} {ma mb : ME} {pos : Pos}
theorem fe_opG {op : Operator} {r : R2} {g : G2} {f : F2} (ho : OpR X (binaryOp op) r) (hs : OpS X.K r g) (hf : OpF f g) (ha : FE X c Wx a ta ma) (hb : FE X c Wx b tb mb) : FE X c Wx (.BinOp a op b pos) (tOp r ta tb) (mOp f ma mb) :=
  (ve_op ho hs ha hb).weak fun _ _ _ h => po_op hf h
noncomputable def fAdd : F2
  | .int i, .int j => some (.val (.int (i + j)))
  | .str x, .str y => lim (x.length + y.length) (.val (.str (x ++ y)))
  | .tup xs, .tup ys => lim (xs.length + ys.length) (.val (.tup (xs ++ ys)))
  | .lst xs, .lst ys => lim (xs.length + ys.length) (.tmp (.lst (xs ++ ys)))
  | _, _ => none
@[simp] theorem fAdd_c1  (i j) : fAdd (.int i) (.int j) = some (.val (.int (i + j))) := rfl
@[simp] theorem fAdd_c2  (x y) : fAdd (.str x) (.str y) = lim (x.length + y.length) (.val (.str (x ++ y))) := rfl
@[simp] theorem fAdd_c3  (xs ys) : fAdd (.tup xs) (.tup ys) = lim (xs.length + ys.length) (.val (.tup (xs ++ ys))) := rfl
@[simp] theorem fAdd_c4  (xs ys) : fAdd (.lst xs) (.lst ys) = lim (xs.length + ys.length) (.tmp (.lst (xs ++ ys))) := rfl
theorem opf_add : OpF fAdd dAdd := by
  intro d1 d2 w Q h q
  unfold fAdd at h
  split at h
  · cases h; exact q
  · obtain ⟨h1, rfl⟩ := lim_some h; exact ⟨h1, q⟩
  · obtain ⟨h1, rfl⟩ := lim_some h; exact ⟨h1, q⟩
  · obtain ⟨h1, rfl⟩ := lim_some h; exact ⟨h1, q⟩
  · cases h
def fSub : F2
  | .int i, .int j => some (.val (.int (i - j)))
  | _, _ => none
@[simp] theorem fSub_c1  (i j) : fSub (.int i) (.int j) = some (.val (.int (i - j))) := rfl
theorem opf_sub : OpF fSub dSub := by
  intro d1 d2 w Q h q
  unfold fSub at h
  split at h
  · cases h; exact q
  · cases h
def MulOk (i j : Int) : Prop := CMul i j ∨ CMulW i j
noncomputable def mulI (i j : Int) : Option W := chk (MulOk i j) (.val (.int (i * j)))
noncomputable def fMul : F2
  | .int i, .int j => mulI i j
  | .lst xs, .int n => chk (-(2 ^ 63) ≤ n ∧ n < 2 ^ 63 ∧ xs.length * n.toNat ≤ sizeLine) (.tmp (.lst (List.replicate n.toNat xs).flatten))
  | _, _ => none
@[simp] theorem fMul_c1  (i j) : fMul (.int i) (.int j) = mulI i j := rfl
@[simp] theorem fMul_c2  (xs n) : fMul (.lst xs) (.int n) = chk (-(2 ^ 63) ≤ n ∧ n < 2 ^ 63 ∧ xs.length * n.toNat ≤ sizeLine) (.tmp (.lst (List.replicate n.toNat xs).flatten)) := rfl
theorem opf_mul : OpF fMul dMul := by
  intro d1 d2 w Q h q
  unfold fMul at h
  split at h
  · obtain ⟨h1, rfl⟩ := chk_some h; exact ⟨h1, q⟩
  · obtain ⟨h1, rfl⟩ := chk_some h; exact ⟨h1.1, h1.2.1, h1.2.2, q⟩
  · cases h
def DivOk (i j : Int) : Prop := CDivW i j ∨ CDivN i j
noncomputable def divI (i j : Int) : Option W := chk (DivOk i j) (.val (.int (i.fdiv j)))
noncomputable def fDiv : F2
  | .int i, .int j => divI i j
  | _, _ => none
@[simp] theorem fDiv_c1  (i j) : fDiv (.int i) (.int j) = divI i j := rfl
theorem opf_div : OpF fDiv dDiv := by
  intro d1 d2 w Q h q
  unfold fDiv at h
  split at h
  · obtain ⟨h1, rfl⟩ := chk_some h; exact ⟨h1, q⟩
  · cases h
noncomputable def modI (i j : Int) : Option W := chk (j ≠ 0) (.val (.int (i.fmod j)))
@[simp] theorem modI_of {i j : Int} (h : j ≠ 0) : modI i j = some (.val (.int (i.fmod j))) := chk_of h
noncomputable def fMod : F2
  | .int i, .int j => modI i j
  | _, _ => none
@[simp] theorem fMod_c1  (i j) : fMod (.int i) (.int j) = modI i j := rfl
theorem opf_mod : OpF fMod dMod := by
  intro d1 d2 w Q h q
  unfold fMod at h
  split at h
  · obtain ⟨h1, rfl⟩ := chk_some h; exact ⟨h1, q⟩
  · cases h
noncomputable def powI (i j : Int) : Option W := chk (CPow i j) (.val (.int (i ^ j.toNat)))
@[simp] theorem powI_s {i j : Int} (h : 0 ≤ j ∧ j ≤ 1000000 ∧ i.natAbs < 18446744073709551616) : powI i j = some (.val (.int (i ^ j.toNat))) := chk_of h
noncomputable def fPow : F2
  | .int i, .int j => powI i j
  | _, _ => none
@[simp] theorem fPow_c1  (i j) : fPow (.int i) (.int j) = powI i j := rfl
theorem opf_pow : OpF fPow dPow := by
  intro d1 d2 w Q h q
  unfold fPow at h
  split at h
  · obtain ⟨h1, rfl⟩ := chk_some h; exact ⟨h1, q⟩
  · cases h
theorem fe_add (ha : FE X c Wx a ta ma) (hb : FE X c Wx b tb mb) : FE X c Wx (.BinOp a .Add b pos) (tOp (rAdd X.K) ta tb) (mOp fAdd ma mb) := fe_opG opr_add ops_add opf_add ha hb
theorem fe_sub (ha : FE X c Wx a ta ma) (hb : FE X c Wx b tb mb) : FE X c Wx (.BinOp a .Sub b pos) (tOp (rI0 fun i j => .int (i - j)) ta tb) (mOp fSub ma mb) := fe_opG op_sub ops_sub opf_sub ha hb
theorem fe_mul (ha : FE X c Wx a ta ma) (hb : FE X c Wx b tb mb) : FE X c Wx (.BinOp a .Mult b pos) (tOp rMulA ta tb) (mOp fMul ma mb) := fe_opG opr_mul ops_mul opf_mul ha hb
theorem fe_div (ha : FE X c Wx a ta ma) (hb : FE X c Wx b tb mb) : FE X c Wx (.BinOp a .FloorDiv b pos) (tOp (fun x y H Q => rI CDivW (fun i j => .int (i / j)) x y H Q ∨ rI CDivN (fun i j => .int (i.fdiv j)) x y H Q) ta tb) (mOp fDiv ma mb) := fe_opG opr_div ops_div opf_div ha hb
theorem fe_mod (ha : FE X c Wx a ta ma) (hb : FE X c Wx b tb mb) : FE X c Wx (.BinOp a .Mod b pos) (tOp (rI (fun _ j => j ≠ 0) fun i j => .int (i.fmod j)) ta tb) (mOp fMod ma mb) := fe_opG op_modN ops_mod opf_mod ha hb
theorem fe_pow (ha : FE X c Wx a ta ma) (hb : FE X c Wx b tb mb) : FE X c Wx (.BinOp a .Pow b pos) (tOp (rI CPow fun i j => .int (i ^ j.toNat)) ta tb) (mOp fPow ma mb) := fe_opG op_pow ops_pow opf_pow ha hb
def ng2 (e : Env) : Option D → R Env W
  | some (.int i) => .ok (.val (.int (-i))) e
  | _ => .no
@[simp] theorem ng2_c1 (e : Env) (i) : ng2 e (some (.int i)) = .ok (.val (.int (-i))) e := rfl
def ngK : R Env W → R Env W
  | .ok w e => ng2 e (view w e)
  | .ex C fs s => .ex C fs s
  | .no => .no
@[simp] theorem ngK_c1  (w e) : ngK (.ok w e) = ng2 e (view w e) := rfl
@[simp] theorem ngK_c2  (C fs s) : ngK (.ex C fs s) = .ex C fs s := rfl
@[simp] theorem ngK_c3  : ngK .no = .no := rfl
@[simp] def mNeg (a : ME) (e : Env) : R Env W := ngK (a e)
theorem fe_neg (ha : FE X c Wx a ta ma) : FE X c Wx (.UnaryOp .USub a pos) (tUn (rU fun i => .int (-i)) ta) (mNeg ma) := (ve_neg ha).weak fun env Q QX h => by
  have h : (ngK (ma env)).po Q QX := h
  show (ma env).po _ QX
  cases hA : ma env with
  | ex C fs s => rw [hA] at h; exact h
  | no => rw [hA] at h; exact h
  | ok w1 e1 =>
    rw [hA] at h
    have h : (ng2 e1 (view w1 e1)).po Q QX := h
    show rd w1 e1 _
    unfold rd
    cases h1 : view w1 e1 with
    | none => rw [h1] at h; exact h
    | some d =>
      rw [h1] at h
      cases d <;> exact h
theorem fe_cmpG {op : CmpOp} {r : R2} {g : G2} {f : F2} (ho : OpR X (compareOp op) r) (hs : OpS X.K r g) (hm : behindInMarks op b = false) (hf : OpF f g) (ha : FE X c Wx a ta ma) (hb : FE X c Wx b tb mb) : FE X c Wx (.Compare a [op] [b] pos) (tOp r ta tb) (mOp f ma mb) :=
  (ve_cmp ho hs hm ha hb).weak fun _ _ _ h => po_op hf h
def tst : R Env W → R Env Bool
  | .ok (.val (.bl b)) e => .ok b e
  | .ex C fs s => .ex C fs s
  | _ => .no
@[simp] theorem tst_c1  (b e) : tst (.ok (.val (.bl b)) e) = .ok b e := rfl
@[simp] theorem tst_c2  (C fs s) : tst (.ex C fs s) = .ex C fs s := rfl
@[simp] def mTst (m : ME) (e : Env) : R Env Bool := tst (m e)
theorem po_tst {m : ME} {env : Env} {Q : Bool → Env → Prop} {QX : VX} (h : vR (mTst m) env Q QX) : vTest (vR m) env Q QX := by
  have h : (tst (m env)).po Q QX := h
  show (m env).po _ QX
  cases hA : m env with
  | ex C fs s => rw [hA] at h; exact h
  | no => rw [hA] at h; exact h
  | ok w1 e1 =>
    rw [hA] at h
    cases w1 with
    | val d => cases d <;> exact h
    | cel i => exact h
    | tmp oc => exact h
theorem ft_cmpG {op : CmpOp} {r : R2} {g : G2} {f : F2} (ho : OpR X (compareOp op) r) (hs : OpS X.K r g) (hm : behindInMarks op b = false) (hf : OpF f g) (ha : FE X c Wx a ta ma) (hb : FE X c Wx b tb mb) : FTe X c Wx (.Compare a [op] [b] pos) (tTest (tOp r ta tb)) (mTst (mOp f ma mb)) :=
  (vt_cmp ho hs hm ha hb).weak fun _ _ _ h => by
    have h := po_tst h
    exact po_op hf h
theorem ft_val {e : Expr} {te : TE} {m : ME} (h : FE X c Wx e te m) (he : ∀ whole, isTrue e X.env whole = (do let v ← whole; standAt e.pos; holding [v] (truthy v)) := by intro _; rfl) : FTe X c Wx e (tB te) (mTst m) :=
  (vt_val h he).weak fun _ _ _ h => po_tst h
def fIS (p : Int → Int → Bool) (q : Str → Str → Bool) : F2
  | .int i, .int j => some (.val (.bl (p i j)))
  | .str i, .str j => some (.val (.bl (q i j)))
  | _, _ => none
@[simp] theorem fIS_c1 (p : Int → Int → Bool) (q : Str → Str → Bool) (i j) : fIS p q (.int i) (.int j) = some (.val (.bl (p i j))) := rfl
@[simp] theorem fIS_c2 (p : Int → Int → Bool) (q : Str → Str → Bool) (i j) : fIS p q (.str i) (.str j) = some (.val (.bl (q i j))) := rfl
theorem opf_IS {p : Int → Int → Bool} {q : Str → Str → Bool} : OpF (fIS p q) (cIS p q) := by
  intro d1 d2 w Q h q
  unfold fIS at h
  split at h
  · cases h; exact q
  · cases h; exact q
  · cases h
def fLt : F2 := fIS (fun i j => decide (i < j)) strLt
@[simp] theorem fLt_int (i j : Int) : fLt (.int i) (.int j) = some (.val (.bl (decide (i < j)))) := rfl
@[simp] theorem fLt_str (x y : Str) : fLt (.str x) (.str y) = some (.val (.bl (strLt x y))) := rfl
def fLe : F2 := fIS (fun i j => decide (i ≤ j)) fun x y => !strLt y x
@[simp] theorem fLe_int (i j : Int) : fLe (.int i) (.int j) = some (.val (.bl (decide (i ≤ j)))) := rfl
@[simp] theorem fLe_str (x y : Str) : fLe (.str x) (.str y) = some (.val (.bl (!strLt y x))) := rfl
def fGt : F2 := fIS (fun i j => decide (j < i)) fun x y => strLt y x
@[simp] theorem fGt_int (i j : Int) : fGt (.int i) (.int j) = some (.val (.bl (decide (j < i)))) := rfl
@[simp] theorem fGt_str (x y : Str) : fGt (.str x) (.str y) = some (.val (.bl (strLt y x))) := rfl
def fGe : F2 := fIS (fun i j => decide (j ≤ i)) fun x y => !strLt x y
@[simp] theorem fGe_int (i j : Int) : fGe (.int i) (.int j) = some (.val (.bl (decide (j ≤ i)))) := rfl
@[simp] theorem fGe_str (x y : Str) : fGe (.str x) (.str y) = some (.val (.bl (!strLt x y))) := rfl
theorem fe_le (ha : FE X c Wx a ta ma) (hb : FE X c Wx b tb mb) : FE X c Wx (.Compare a [.LtE] [b] pos) (tOp (rIS (fun i j => decide (i ≤ j)) fun x y => !strLt y x) ta tb) (mOp fLe ma mb) := fe_cmpG opr_le ops_IS (nomark _) opf_IS ha hb
theorem ft_lt (ha : FE X c Wx a ta ma) (hb : FE X c Wx b tb mb) : FTe X c Wx (.Compare a [.Lt] [b] pos) (tTest (tOp (rIS (fun i j => decide (i < j)) strLt) ta tb)) (mTst (mOp fLt ma mb)) := ft_cmpG opr_lt ops_IS (nomark _) opf_IS ha hb
theorem ft_le (ha : FE X c Wx a ta ma) (hb : FE X c Wx b tb mb) : FTe X c Wx (.Compare a [.LtE] [b] pos) (tTest (tOp (rIS (fun i j => decide (i ≤ j)) fun x y => !strLt y x) ta tb)) (mTst (mOp fLe ma mb)) := ft_cmpG opr_le ops_IS (nomark _) opf_IS ha hb
theorem ft_gt (ha : FE X c Wx a ta ma) (hb : FE X c Wx b tb mb) : FTe X c Wx (.Compare a [.Gt] [b] pos) (tTest (tOp (rIS (fun i j => decide (j < i)) fun x y => strLt y x) ta tb)) (mTst (mOp fGt ma mb)) := ft_cmpG opr_gt ops_IS (nomark _) opf_IS ha hb
theorem ft_ge (ha : FE X c Wx a ta ma) (hb : FE X c Wx b tb mb) : FTe X c Wx (.Compare a [.GtE] [b] pos) (tTest (tOp (rIS (fun i j => decide (j ≤ i)) fun x y => !strLt x y) ta tb)) (mTst (mOp fGe ma mb)) := ft_cmpG opr_ge ops_IS (nomark _) opf_IS ha hb
end
end
noncomputable def eqG (a b : D) : Option Bool := match toPy a, toPy b with
  | some x, some y => cif (SeqAt.shaped x = true ∧ SeqAt.shaped y = true) (some (PyData.eqv x y)) none
  | _, _ => none
noncomputable def eqD : D → D → Option Bool
  | .int i, .int j => some (decide (i = j))
  | .str i, .str j => some (decide (i = j))
  | .bl i, .bl j => some (decide (i = j))
  | .non, .non => some true
  | .int _, .non => some false
  | .non, .int _ => some false
  | .str _, .non => some false
  | .non, .str _ => some false
  | .int _, .str _ => some false
  | .str _, .int _ => some false
  | a, b => eqG a b
@[simp] theorem eqD_c1  (i j) : eqD (.int i) (.int j) = some (decide (i = j)) := rfl
@[simp] theorem eqD_c2  (i j) : eqD (.str i) (.str j) = some (decide (i = j)) := rfl
@[simp] theorem eqD_c3  (i j) : eqD (.bl i) (.bl j) = some (decide (i = j)) := rfl
@[simp] theorem eqD_c4  : eqD .non .non = some true := rfl
@[simp] theorem eqD_c5  (x1) : eqD (.int x1) .non = some false := rfl
@[simp] theorem eqD_c6  (x1) : eqD .non (.int x1) = some false := rfl
@[simp] theorem eqD_c7  (x1) : eqD (.str x1) .non = some false := rfl
@[simp] theorem eqD_c8  (x1) : eqD .non (.str x1) = some false := rfl
@[simp] theorem eqD_c9  (x1 x2) : eqD (.int x1) (.str x2) = some false := rfl
@[simp] theorem eqD_c10  (x1 x2) : eqD (.str x1) (.int x2) = some false := rfl
@[simp] theorem eqD_tt (a b : List D) : eqD (.tup a) (.tup b) = eqG (.tup a) (.tup b) := rfl
@[simp] theorem eqD_ll (a b : List D) : eqD (.lst a) (.lst b) = eqG (.lst a) (.lst b) := rfl
@[simp] theorem eqD_tn (a : List D) : eqD (.tup a) .non = eqG (.tup a) .non := rfl
@[simp] theorem eqD_nt (a : List D) : eqD .non (.tup a) = eqG .non (.tup a) := rfl
def eqW (neg : Bool) : Option Bool → Option W
  | some b => some (.val (.bl (if neg then !b else b)))
  | none => none
@[simp] theorem eqW_c1 (neg : Bool) (b) : eqW neg (some b) = some (.val (.bl (if neg then !b else b))) := rfl
@[simp] theorem eqW_c2 (neg : Bool) : eqW neg none = none := rfl
@[simp] noncomputable def fEq (neg : Bool) (a b : D) : Option W := eqW neg (eqD a b)
section
theorem opf_eq {neg : Bool} : OpF (fEq neg) (dEq neg) := by
  intro d1 d2 w Q h q
  have gen : eqW neg (eqG d1 d2) = some w → dEqG neg d1 d2 Q := fun h => by
    unfold eqG at h
    unfold dEqG
    cases h1 : toPy d1 with
    | none => rw [h1] at h; cases h
    | some x =>
      cases h2 : toPy d2 with
      | none => rw [h1, h2] at h; cases h
      | some y =>
        rw [h1, h2] at h
        dsimp only at h
        by_cases hs : SeqAt.shaped x = true ∧ SeqAt.shaped y = true
        · rw [cif_pos hs] at h
          cases h
          exact ⟨hs.1, hs.2, q⟩
        · rw [cif_neg hs] at h; cases h
  unfold fEq at h
  cases d1 <;> cases d2 <;> first
    | exact gen h
    | (have h := Option.some.inj h; subst h; cases neg <;> simpa [dEq] using q)
end
end
end VL
set_option Elab.async false
set_option linter.all false
set_option maxRecDepth 100000
set_option maxHeartbeats 4000000
namespace VL
noncomputable section
open PySem PySem.Spec PyProof.Rows L2
variable [CM]
section
variable {X : Cx} {K : PySem.W.Frag}
def rInDT (neg : Bool) (K : PySem.W.Frag) : R2 := fun x y H Q => ∃ d c ds, Dp K H x d ∧ Dp K H y c ∧ (c = .list ds ∨ c = .tuple ds) ∧ SeqAt.shaped d = true ∧ SeqAt.shaped c = true ∧ Q (.bl (neg ^^ ds.any fun z => PyData.eqv z d)) H
theorem canLays_l {ds : List PyData} (h : SeqAt.shaped (.list ds) = true) : PyData.canLayAll0 ds = true := by
  have := SeqAt.canLay_of_shaped h
  simpa [PyData.canLay0] using this
theorem canLays_t {ds : List PyData} (h : SeqAt.shaped (.tuple ds) = true) : PyData.canLayAll0 ds = true := by
  have := SeqAt.canLay_of_shaped h
  simpa [PyData.canLay0] using this
theorem op_inDT (hu : X.A.units + 65 < cLine) : OpR X (compareOp .In) (rInDT false X.K) := by
  intro pins s σ H x y v u Q I rx ry h
  obtain ⟨d, c, ds, hd, he, hc, sd, se, q⟩ := h
  obtain ⟨as, r1⟩ := Dp.reads I d x v hd rx
  obtain ⟨bs, r2⟩ := Dp.reads I c y u he ry
  rw [Bool.false_xor] at q
  rcases hc with rfl | rfl
  · exact SeqAt.in_list_reads r2 r1 (canLays_l se) (SeqAt.canLay_of_shaped sd) (room_in_shaped sd hu) ⟨.bl _, H, I, rfl, q⟩
  · exact SeqAt.in_tuple_reads r2 r1 (canLays_t se) (SeqAt.canLay_of_shaped sd) (room_in_shaped sd hu) ⟨.bl _, H, I, rfl, q⟩
theorem op_ninDT (hu : X.A.units + 65 < cLine) : OpR X (compareOp .NotIn) (rInDT true X.K) := by
  intro pins s σ H x y v u Q I rx ry h
  obtain ⟨d, c, ds, hd, he, hc, sd, se, q⟩ := h
  obtain ⟨as, r1⟩ := Dp.reads I d x v hd rx
  obtain ⟨bs, r2⟩ := Dp.reads I c y u he ry
  rw [Bool.true_xor] at q
  rcases hc with rfl | rfl
  · exact SeqAt.notIn_list_reads r2 r1 (canLays_l se) (SeqAt.canLay_of_shaped sd) (room_in_shaped sd hu) ⟨.bl _, H, I, rfl, q⟩
  · exact SeqAt.notIn_tuple_reads r2 r1 (canLays_t se) (SeqAt.canLay_of_shaped sd) (room_in_shaped sd hu) ⟨.bl _, H, I, rfl, q⟩
def dInG (neg : Bool) : G2 := fun d1 d2 Q => ∃ p c ds, toPy d1 = some p ∧ toPy d2 = some c ∧ (c = .list ds ∨ c = .tuple ds) ∧ SeqAt.shaped p = true ∧ SeqAt.shaped c = true ∧ Q (.val (.bl (neg ^^ ds.any fun z => PyData.eqv z p)))
theorem ops_inG {neg : Bool} : OpS K (rInDT neg K) (dInG neg) := by
  intro Hb H d1 d2 v1 v2 Q Q' s r1 r2 g k
  obtain ⟨p, c, ds, h1, h2, h3, h4, h5, q⟩ := g
  exact ⟨p, c, ds, Rp.dp _ _ _ (r1.up s) h1, Rp.dp _ _ _ (r2.up s) h2, h3, h4, h5, k (.val (.bl _)) _ _ _ (.refl s) (.bl _) q⟩
theorem OpS.or {r r' : R2} {g g' : G2} (h : OpS K r g) (h' : OpS K r' g') : OpS K (fun x y H Q => r x y H Q ∨ r' x y H Q) (fun a b Q => g a b Q ∨ g' a b Q) :=
  fun Hb H d1 d2 v1 v2 Q Q' s r1 r2 q k => q.elim (fun q => .inl (h Hb H d1 d2 v1 v2 Q Q' s r1 r2 q k)) fun q => .inr (h' Hb H d1 d2 v1 v2 Q Q' s r1 r2 q k)
theorem MtR.or {id : String} {r r' : V → List V → Hp → VK → Prop} (h : MtR X id r) (h' : MtR X id r') : MtR X id (fun x xs H Q => r x xs H Q ∨ r' x xs H Q) :=
  fun pins s σ H x xs v us Q I rx rxs q => q.elim (h pins s σ H x xs v us Q I rx rxs) (h' pins s σ H x xs v us Q I rx rxs)
end
theorem ru65 {k : Nat} {A : Around} (r : L2.Room k A) : A.units + 65 < cLine := by have := r.un; omega
def inG (d : D) (ds : List D) : Option Bool := match toPys ds, toPy d with
  | some ps, some p => cif (SeqAt.shaped (.list ps) = true ∧ SeqAt.shaped p = true) (some (ps.any fun z => PyData.eqv z p)) none
  | _, _ => none
def idxG (d : D) (ds : List D) : Option W := match toPys ds, toPy d with
  | some ps, some p => cif (SeqAt.shaped (.list ps) = true ∧ SeqAt.shaped p = true) ((ps.findIdx? fun z => PyData.eqv z p).map fun j => .val (.int (j : Nat))) none
  | _, _ => none
theorem shaped_lt {ps : List PyData} : SeqAt.shaped (.tuple ps) = SeqAt.shaped (.list ps) := by
  unfold SeqAt.shaped
  have h1 : (PyData.tuple ps).canLay0 = (PyData.list ps).canLay0 := by simp only [PyData.canLay0]
  have h2 : (PyData.tuple ps).depth = (PyData.list ps).depth := by simp only [PyData.depth]
  rw [h1, h2]
theorem inG_some {d : D} {ds : List D} {b : Bool} (h : inG d ds = some b) : ∃ ps p, toPys ds = some ps ∧ toPy d = some p ∧ SeqAt.shaped (.list ps) = true ∧ SeqAt.shaped p = true ∧ b = ps.any fun z => PyData.eqv z p := by
  unfold inG at h
  split at h
  · rename_i ps p h1 h2
    by_cases hs : SeqAt.shaped (.list ps) = true ∧ SeqAt.shaped p = true
    · rw [cif_pos hs] at h; cases h; exact ⟨ps, p, h1, h2, hs.1, hs.2, rfl⟩
    · rw [cif_neg hs] at h; cases h
  · cases h
end
end VL
set_option Elab.async false
set_option linter.all false
set_option maxRecDepth 100000
set_option maxHeartbeats 4000000
namespace VL
noncomputable section
open PySem PySem.Spec PyProof.Rows L2
variable [CM]
section
variable {K : PySem.W.Frag} {c : VC} {Wx : WX} {X : Cx}
section
variable {a b : Expr} {ta tb : TE} {ma mb : ME} {pos : Pos}
theorem fe_eq (hu : X.A.units + 64 < cLine) (ha : FE X c Wx a ta ma) (hb : FE X c Wx b tb mb) : FE X c Wx (.Compare a [.Eq] [b] pos) (tOp (rEqA X.K) ta tb) (mOp (fEq false) ma mb) := fe_cmpG (opr_eq hu) ops_eq (nomark _) opf_eq ha hb
theorem fe_ne (hu : X.A.units + 64 < cLine) (ha : FE X c Wx a ta ma) (hb : FE X c Wx b tb mb) : FE X c Wx (.Compare a [.NotEq] [b] pos) (tOp (rNeA X.K) ta tb) (mOp (fEq true) ma mb) := fe_cmpG (opr_ne hu) ops_ne (nomark _) opf_eq ha hb
theorem ft_eq (hu : X.A.units + 64 < cLine) (ha : FE X c Wx a ta ma) (hb : FE X c Wx b tb mb) : FTe X c Wx (.Compare a [.Eq] [b] pos) (tTest (tOp (rEqA X.K) ta tb)) (mTst (mOp (fEq false) ma mb)) := ft_cmpG (opr_eq hu) ops_eq (nomark _) opf_eq ha hb
theorem ft_ne (hu : X.A.units + 64 < cLine) (ha : FE X c Wx a ta ma) (hb : FE X c Wx b tb mb) : FTe X c Wx (.Compare a [.NotEq] [b] pos) (tTest (tOp (rNeA X.K) ta tb)) (mTst (mOp (fEq true) ma mb)) := ft_cmpG (opr_ne hu) ops_ne (nomark _) opf_eq ha hb
def fIsN (neg : Bool) : F2
  | .non, .non => some (.val (.bl (!neg)))
  | .int _, .non => some (.val (.bl neg))
  | .bl _, .non => some (.val (.bl neg))
  | .str _, .non => some (.val (.bl neg))
  | .tup _, .non => some (.val (.bl neg))
  | .lst _, .non => some (.val (.bl neg))
  | _, _ => none
@[simp] theorem fIsN_c1 (neg : Bool) : fIsN neg .non .non = some (.val (.bl (!neg))) := rfl
@[simp] theorem fIsN_c2 (neg : Bool) (x1) : fIsN neg (.int x1) .non = some (.val (.bl neg)) := rfl
@[simp] theorem fIsN_c3 (neg : Bool) (x1) : fIsN neg (.bl x1) .non = some (.val (.bl neg)) := rfl
@[simp] theorem fIsN_c4 (neg : Bool) (x1) : fIsN neg (.str x1) .non = some (.val (.bl neg)) := rfl
@[simp] theorem fIsN_c5 (neg : Bool) (x1) : fIsN neg (.tup x1) .non = some (.val (.bl neg)) := rfl
@[simp] theorem fIsN_c6 (neg : Bool) (x1) : fIsN neg (.lst x1) .non = some (.val (.bl neg)) := rfl
theorem opf_isN {neg : Bool} : OpF (fIsN neg) (dIsN neg) := by
  intro d1 d2 w Q h q
  unfold fIsN at h
  split at h <;> first
    | (cases h; exact q)
    | cases h
theorem fe_isN (ha : FE X c Wx a ta ma) (hb : FE X c Wx b tb mb) : FE X c Wx (.Compare a [.Is] [b] pos) (tOp (fun x y H Q => y = .non ∧ Q (.bl (decide (x = .non))) H) ta tb) (mOp (fIsN false) ma mb) := fe_cmpG op_isN ops_isN (nomark _) opf_isN ha hb
@[simp] def strsOf : List D → Option (List Str)
  | [] => some []
  | .str x :: ds => (strsOf ds).map (x :: ·)
  | _ :: _ => none
@[simp] def intsOf : List D → Option (List Int)
  | [] => some []
  | .int x :: ds => (intsOf ds).map (x :: ·)
  | _ :: _ => none
@[simp] def blsOf : List D → Option (List Bool)
  | [] => some []
  | .bl x :: ds => (blsOf ds).map (x :: ·)
  | _ :: _ => none
@[simp] theorem strsOf_map : ∀ ss : List Str, strsOf (ss.map D.str) = some ss
  | [] => rfl
  | s :: ss => by simp [strsOf_map ss]
@[simp] theorem intsOf_map : ∀ ss : List Int, intsOf (ss.map D.int) = some ss
  | [] => rfl
  | s :: ss => by simp [intsOf_map ss]
@[simp] theorem blsOf_map : ∀ ss : List Bool, blsOf (ss.map D.bl) = some ss
  | [] => rfl
  | s :: ss => by simp [blsOf_map ss]
theorem strsOf_some : ∀ {ds : List D} {ss : List Str}, strsOf ds = some ss → ds = ss.map D.str
  | [], _, h => by cases h; rfl
  | .str x :: ds, _, h => by
    cases h1 : strsOf ds with
    | none => simp [h1] at h
    | some r => simp [h1] at h; subst h; rw [strsOf_some h1]; rfl
  | .non :: _, _, h => by simp at h
  | .bl _ :: _, _, h => by simp at h
  | .int _ :: _, _, h => by simp at h
  | .tup _ :: _, _, h => by simp at h
  | .lst _ :: _, _, h => by simp at h
  | .obj _ _ :: _, _, h => by simp at h
  | .scr _ :: _, _, h => by simp at h
theorem intsOf_some : ∀ {ds : List D} {ss : List Int}, intsOf ds = some ss → ds = ss.map D.int
  | [], _, h => by cases h; rfl
  | .int x :: ds, _, h => by
    cases h1 : intsOf ds with
    | none => simp [h1] at h
    | some r => simp [h1] at h; subst h; rw [intsOf_some h1]; rfl
  | .non :: _, _, h => by simp at h
  | .bl _ :: _, _, h => by simp at h
  | .str _ :: _, _, h => by simp at h
  | .tup _ :: _, _, h => by simp at h
  | .lst _ :: _, _, h => by simp at h
  | .obj _ _ :: _, _, h => by simp at h
  | .scr _ :: _, _, h => by simp at h
theorem blsOf_some : ∀ {ds : List D} {ss : List Bool}, blsOf ds = some ss → ds = ss.map D.bl
  | [], _, h => by cases h; rfl
  | .bl x :: ds, _, h => by
    cases h1 : blsOf ds with
    | none => simp [h1] at h
    | some r => simp [h1] at h; subst h; rw [blsOf_some h1]; rfl
  | .non :: _, _, h => by simp at h
  | .int _ :: _, _, h => by simp at h
  | .str _ :: _, _, h => by simp at h
  | .tup _ :: _, _, h => by simp at h
  | .lst _ :: _, _, h => by simp at h
  | .obj _ _ :: _, _, h => by simp at h
  | .scr _ :: _, _, h => by simp at h
def inSeq : D → List D → Option Bool
  | .str x, ds => (strsOf ds).map fun ss => ss.any fun y => y == x
  | .int x, ds => (intsOf ds).map fun ss => ss.any fun y => y == x
  | .tup x, ds => inG (.tup x) ds
  | .lst x, ds => inG (.lst x) ds
  | _, _ => none
@[simp] theorem inSeq_c1  (x ds) : inSeq (.str x) ds = (strsOf ds).map fun ss => ss.any fun y => y == x := rfl
@[simp] theorem inSeq_c2  (x ds) : inSeq (.int x) ds = (intsOf ds).map fun ss => ss.any fun y => y == x := rfl
@[simp] theorem inSeq_c3  (x ds) : inSeq (.tup x) ds = inG (.tup x) ds := rfl
@[simp] theorem inSeq_c4  (x ds) : inSeq (.lst x) ds = inG (.lst x) ds := rfl
def inD : D → D → Option Bool
  | .str i, .str j => some (hasS j i)
  | d, .tup ds => inSeq d ds
  | d, .lst ds => inSeq d ds
  | _, _ => none
@[simp] theorem inD_c1  (i j) : inD (.str i) (.str j) = some (hasS j i) := rfl
@[simp] theorem inD_c2  (d ds) : inD d (.tup ds) = inSeq d ds := by cases d <;> rfl
@[simp] theorem inD_c3  (d ds) : inD d (.lst ds) = inSeq d ds := by cases d <;> rfl
@[simp] def fIn (neg : Bool) (a b : D) : Option W := eqW neg (inD a b)
theorem inSeq_of {neg : Bool} {d : D} {ds : List D} {w : W} {Q : W → Prop} (h : eqW neg (inSeq d ds) = some w) (q : Q w) : dInSeq neg d ds Q ∨ ∀ c ps, toPys ds = some ps → (c = .list ps ∨ c = .tuple ps) → ∃ p, toPy d = some p ∧ SeqAt.shaped p = true ∧ SeqAt.shaped c = true ∧ Q (.val (.bl (neg ^^ ps.any fun z => PyData.eqv z p))) := by
  have gen : ∀ d', d' = d → eqW neg (inG d' ds) = some w → ∀ c ps, toPys ds = some ps → (c = .list ps ∨ c = .tuple ps) → ∃ p, toPy d = some p ∧ SeqAt.shaped p = true ∧ SeqAt.shaped c = true ∧ Q (.val (.bl (neg ^^ ps.any fun z => PyData.eqv z p))) := by
    intro d' e hh c ps hp hc
    subst e
    cases h1 : inG d' ds with
    | none => rw [h1] at hh; cases hh
    | some b =>
      rw [h1] at hh
      obtain ⟨ps', p, h2, h3, h4, h5, rfl⟩ := inG_some h1
      rw [hp] at h2; cases h2
      cases hh
      refine ⟨p, h3, h5, ?_, by cases neg <;> simpa using q⟩
      rcases hc with rfl | rfl
      · exact h4
      · rw [shaped_lt]; exact h4
  cases d with
  | str x =>
    cases h1 : strsOf ds with
    | none => simp [h1] at h
    | some ss => simp [h1] at h; subst h; exact .inl (.inl ⟨x, ss, rfl, strsOf_some h1, by cases neg <;> simpa using q⟩)
  | int x =>
    cases h1 : intsOf ds with
    | none => simp [h1] at h
    | some ss => simp [h1] at h; subst h; exact .inl (.inr ⟨x, ss, rfl, intsOf_some h1, by cases neg <;> simpa using q⟩)
  | tup x => exact .inr (gen _ rfl h)
  | lst x => exact .inr (gen _ rfl h)
  | _ => exact nomatch h
theorem inSeq_py {neg : Bool} {d : D} {ds : List D} {w : W} {Q : W → Prop} (h : eqW neg (inSeq d ds) = some w) (q : Q w) : dInSeq neg d ds Q ∨ ∃ ps, toPys ds = some ps := by
  cases d with
  | str x =>
    cases h1 : strsOf ds with
    | none => simp [h1] at h
    | some ss => simp [h1] at h; subst h; exact .inl (.inl ⟨x, ss, rfl, strsOf_some h1, by cases neg <;> simpa using q⟩)
  | int x =>
    cases h1 : intsOf ds with
    | none => simp [h1] at h
    | some ss => simp [h1] at h; subst h; exact .inl (.inr ⟨x, ss, rfl, intsOf_some h1, by cases neg <;> simpa using q⟩)
  | tup x =>
    cases h1 : inG (.tup x) ds with
    | none => simp [h1] at h
    | some b => obtain ⟨ps, _, h2, _⟩ := inG_some h1; exact .inr ⟨ps, h2⟩
  | lst x =>
    cases h1 : inG (.lst x) ds with
    | none => simp [h1] at h
    | some b => obtain ⟨ps, _, h2, _⟩ := inG_some h1; exact .inr ⟨ps, h2⟩
  | _ => exact nomatch h
def dInX (neg : Bool) : G2 := fun a b Q => dIn neg a b Q ∨ dInG neg a b Q
theorem opf_in {neg : Bool} : OpF (fIn neg) (dInX neg) := by
  intro d1 d2 w Q h q
  cases d2 with
  | tup ds =>
    have h : eqW neg (inSeq d1 ds) = some w := by cases d1 <;> simpa [fIn] using h
    rcases inSeq_py h q with g | ⟨ps, hp⟩
    · exact .inl (by cases d1 <;> exact g)
    · rcases inSeq_of h q with g | g
      · exact .inl (by cases d1 <;> exact g)
      · obtain ⟨p, h1, h2, h3, h4⟩ := g (.tuple ps) ps hp (.inr rfl)
        exact .inr ⟨p, .tuple ps, ps, h1, by unfold toPy; rw [hp]; rfl, .inr rfl, h2, h3, h4⟩
  | lst ds =>
    have h : eqW neg (inSeq d1 ds) = some w := by cases d1 <;> simpa [fIn] using h
    rcases inSeq_py h q with g | ⟨ps, hp⟩
    · exact .inl (by cases d1 <;> exact g)
    · rcases inSeq_of h q with g | g
      · exact .inl (by cases d1 <;> exact g)
      · obtain ⟨p, h1, h2, h3, h4⟩ := g (.list ps) ps hp (.inl rfl)
        exact .inr ⟨p, .list ps, ps, h1, by unfold toPy; rw [hp]; rfl, .inl rfl, h2, h3, h4⟩
  | str j =>
    cases d1 with
    | str i =>
      have h := Option.some.inj h
      subst h
      exact .inl (by cases neg <;> simpa using q)
    | _ => exact nomatch h
  | _ => cases d1 <;> exact nomatch h
def rInX (K : PySem.W.Frag) : R2 := fun x y H Q => rInAll K x y H Q ∨ rInDT false K x y H Q
def rNinX (K : PySem.W.Frag) : R2 := fun x y H Q => rNinAll K x y H Q ∨ rInDT true K x y H Q
theorem opr_inX (hu : X.A.units + 65 < cLine) : OpR X (compareOp .In) (rInX X.K) := OpR.or (OpR.or op_in_str op_in_seq) (op_inDT hu)
theorem opr_ninX (hu : X.A.units + 65 < cLine) : OpR X (compareOp .NotIn) (rNinX X.K) := OpR.or (OpR.or L2.op_notin_str op_notIn_seq) (op_ninDT hu)
theorem ops_inX : OpS K (rInX K) (dInX false) := OpS.or ops_in ops_inG
theorem ops_ninX : OpS K (rNinX K) (dInX true) := OpS.or ops_nin ops_inG
theorem fe_in (hu : X.A.units + 65 < cLine) (ha : FE X c Wx a ta ma) (hb : FE X c Wx b tb mb) (hm : behindInMarks .In b = false := by rfl) : FE X c Wx (.Compare a [.In] [b] pos) (tOp (rInX X.K) ta tb) (mOp (fIn false) ma mb) := fe_cmpG (opr_inX hu) ops_inX hm opf_in ha hb
theorem ft_in (hu : X.A.units + 65 < cLine) (ha : FE X c Wx a ta ma) (hb : FE X c Wx b tb mb) (hm : behindInMarks .In b = false := by rfl) : FTe X c Wx (.Compare a [.In] [b] pos) (tTest (tOp (rInX X.K) ta tb)) (mTst (mOp (fIn false) ma mb)) := ft_cmpG (opr_inX hu) ops_inX hm opf_in ha hb
theorem ft_nin (hu : X.A.units + 65 < cLine) (ha : FE X c Wx a ta ma) (hb : FE X c Wx b tb mb) (hm : behindInMarks .NotIn b = false := by rfl) : FTe X c Wx (.Compare a [.NotIn] [b] pos) (tTest (tOp (rNinX X.K) ta tb)) (mTst (mOp (fIn true) ma mb)) := ft_cmpG (opr_ninX hu) ops_ninX hm opf_in ha hb
end
def andK (b : MT) : R Env Bool → R Env Bool
  | .ok true e => b e
  | .ok false e => .ok false e
  | .ex C fs s => .ex C fs s
  | .no => .no
@[simp] theorem andK_c1 (b : MT) (e) : andK b (.ok true e) = b e := rfl
@[simp] theorem andK_c2 (b : MT) (e) : andK b (.ok false e) = .ok false e := rfl
@[simp] theorem andK_c3 (b : MT) (C fs s) : andK b (.ex C fs s) = .ex C fs s := rfl
@[simp] theorem andK_c4 (b : MT) : andK b .no = .no := rfl
def orK (b : MT) : R Env Bool → R Env Bool
  | .ok true e => .ok true e
  | .ok false e => b e
  | .ex C fs s => .ex C fs s
  | .no => .no
@[simp] theorem orK_c1 (b : MT) (e) : orK b (.ok true e) = .ok true e := rfl
@[simp] theorem orK_c2 (b : MT) (e) : orK b (.ok false e) = b e := rfl
@[simp] theorem orK_c3 (b : MT) (C fs s) : orK b (.ex C fs s) = .ex C fs s := rfl
@[simp] theorem orK_c4 (b : MT) : orK b .no = .no := rfl
@[simp] def mAndT (a b : MT) (e : Env) : R Env Bool := andK b (a e)
@[simp] def mOrT (a b : MT) (e : Env) : R Env Bool := orK b (a e)
@[simp] def mNotT (a : MT) (e : Env) : R Env Bool := mp (fun b => !b) (a e)
section
variable {a b : Expr} {rest : List Expr} {ta tb : TT} {ma mb : MT} {pos : Pos}
theorem fw_and1 (h : FTe X c Wx a ta ma) : FW X c Wx (.BoolOp .And [a] pos) ta ma := vw_and1 h
theorem fw_or1 (h : FTe X c Wx a ta ma) : FW X c Wx (.BoolOp .Or [a] pos) ta ma := vw_or1 h
theorem fw_and (ha : FTe X c Wx a ta ma) (hb : FW X c Wx (.BoolOp .And (b :: rest) pos) tb mb) : FW X c Wx (.BoolOp .And (a :: b :: rest) pos) (tAnd ta tb) (mAndT ma mb) :=
  (vw_and ha hb).weak fun env Q QX h => by
    have h : (andK mb (ma env)).po Q QX := h
    show (ma env).po _ QX
    cases hA : ma env with
    | ex C fs s => rw [hA] at h; exact h
    | no => rw [hA] at h; exact h
    | ok k e1 =>
      rw [hA] at h
      cases k with
      | true => exact h
      | false => exact h
theorem fw_or (ha : FTe X c Wx a ta ma) (hb : FW X c Wx (.BoolOp .Or (b :: rest) pos) tb mb) : FW X c Wx (.BoolOp .Or (a :: b :: rest) pos) (tOr ta tb) (mOrT ma mb) :=
  (vw_or ha hb).weak fun env Q QX h => by
    have h : (orK mb (ma env)).po Q QX := h
    show (ma env).po _ QX
    cases hA : ma env with
    | ex C fs s => rw [hA] at h; exact h
    | no => rw [hA] at h; exact h
    | ok k e1 =>
      rw [hA] at h
      cases k with
      | true => exact h
      | false => exact h
theorem FW.ft {e : Expr} (h : FW X c Wx e ta ma) : FTe X c Wx e ta ma := VW.vt h
theorem ft_not (h : FTe X c Wx a ta ma) : FTe X c Wx (.UnaryOp .Not a pos) (tNot ta) (mNotT ma) := (vt_not h).weak fun env Q QX h => po_mp h
end
section
variable {t a b : Expr} {rest : List Expr} {tt : TT} {ta tb : TE} {mt : MT} {ma mb : ME} {pos : Pos}
def andV (b : ME) : R Env W → R Env W
  | .ok (.val (.bl true)) e => b e
  | .ok (.val (.bl false)) e => .ok (.val (.bl false)) e
  | .ex C fs s => .ex C fs s
  | _ => .no
@[simp] theorem andV_c1 (b : ME) (e) : andV b (.ok (.val (.bl true)) e) = b e := rfl
@[simp] theorem andV_c2 (b : ME) (e) : andV b (.ok (.val (.bl false)) e) = .ok (.val (.bl false)) e := rfl
@[simp] theorem andV_c3 (b : ME) (C fs s) : andV b (.ex C fs s) = .ex C fs s := rfl
def orV (b : ME) : R Env W → R Env W
  | .ok (.val (.bl true)) e => .ok (.val (.bl true)) e
  | .ok (.val (.bl false)) e => b e
  | .ex C fs s => .ex C fs s
  | _ => .no
@[simp] theorem orV_c1 (b : ME) (e) : orV b (.ok (.val (.bl true)) e) = .ok (.val (.bl true)) e := rfl
@[simp] theorem orV_c2 (b : ME) (e) : orV b (.ok (.val (.bl false)) e) = b e := rfl
@[simp] theorem orV_c3 (b : ME) (C fs s) : orV b (.ex C fs s) = .ex C fs s := rfl
def notV : R Env W → R Env W
  | .ok (.val (.bl b)) e => .ok (.val (.bl (!b))) e
  | .ex C fs s => .ex C fs s
  | _ => .no
@[simp] theorem notV_c1  (b e) : notV (.ok (.val (.bl b)) e) = .ok (.val (.bl (!b))) e := rfl
@[simp] theorem notV_c2  (C fs s) : notV (.ex C fs s) = .ex C fs s := rfl
@[simp] def mAndV (a b : ME) (e : Env) : R Env W := andV b (a e)
@[simp] def mOrV (a b : ME) (e : Env) : R Env W := orV b (a e)
@[simp] def mNotV (a : ME) (e : Env) : R Env W := notV (a e)
theorem fe_one {op : BoolOp} (h : FE X c Wx a ta ma) : FE X c Wx (.BoolOp op [a] pos) ta ma := ve_one h
theorem fe_andB (ha : FE X c Wx a ta ma) (hb' : FE X c Wx (.BoolOp .And (b :: rest) pos) tb mb) : FE X c Wx (.BoolOp .And (a :: b :: rest) pos) (tAndV ta tb) (mAndV ma mb) :=
  (ve_and ha hb').weak fun env Q QX h => by
    have h : (andV mb (ma env)).po Q QX := h
    show (ma env).po _ QX
    cases hA : ma env with
    | ex C fs s => rw [hA] at h; exact h
    | no => rw [hA] at h; exact h
    | ok w e1 =>
      rw [hA] at h
      cases w with
      | val d =>
        cases d with
        | bl k => cases k <;> exact h
        | _ => exact h.elim
      | cel i => exact h.elim
      | tmp oc => exact h.elim
theorem fe_orB (ha : FE X c Wx a ta ma) (hb' : FE X c Wx (.BoolOp .Or (b :: rest) pos) tb mb) : FE X c Wx (.BoolOp .Or (a :: b :: rest) pos) (tOrV ta tb) (mOrV ma mb) :=
  (ve_or ha hb').weak fun env Q QX h => by
    have h : (orV mb (ma env)).po Q QX := h
    show (ma env).po _ QX
    cases hA : ma env with
    | ex C fs s => rw [hA] at h; exact h
    | no => rw [hA] at h; exact h
    | ok w e1 =>
      rw [hA] at h
      cases w with
      | val d =>
        cases d with
        | bl k => cases k <;> exact h
        | _ => exact h.elim
      | cel i => exact h.elim
      | tmp oc => exact h.elim
theorem fe_not (ha : FE X c Wx a ta ma) : FE X c Wx (.UnaryOp .Not a pos) (tNotV ta) (mNotV ma) := (ve_not ha).weak fun env Q QX h => by
    have h : (notV (ma env)).po Q QX := h
    show (ma env).po _ QX
    cases hA : ma env with
    | ex C fs s => rw [hA] at h; exact h
    | no => rw [hA] at h; exact h
    | ok w e1 =>
      rw [hA] at h
      cases w with
      | val d =>
        cases d with
        | bl k => exact h
        | _ => exact h.elim
      | cel i => exact h.elim
      | tmp oc => exact h.elim
def ifK {α : Type} (a b : Env → R Env α) : R Env Bool → R Env α
  | .ok true e => a e
  | .ok false e => b e
  | .ex C fs s => .ex C fs s
  | .no => .no
@[simp] theorem ifK_c1 {α : Type} (a b : Env → R Env α) (e) : ifK a b (.ok true e) = a e := rfl
@[simp] theorem ifK_c2 {α : Type} (a b : Env → R Env α) (e) : ifK a b (.ok false e) = b e := rfl
@[simp] theorem ifK_c3 {α : Type} (a b : Env → R Env α) (C fs s) : ifK a b (.ex C fs s) = .ex C fs s := rfl
@[simp] theorem ifK_c4 {α : Type} (a b : Env → R Env α) : ifK a b .no = .no := rfl
@[simp] def mIf (t : MT) (a b : ME) (e : Env) : R Env W := ifK a b (t e)
theorem fe_if (ht : FTe X c Wx t tt mt) (ha : FE X c Wx a ta ma) (hb : FE X c Wx b tb mb) : FE X c Wx (.IfExp t a b pos) (tIf tt ta tb) (mIf mt ma mb) :=
  (ve_if ht ha hb).weak fun env Q QX h => by
    have h : (ifK ma mb (mt env)).po Q QX := h
    show (mt env).po _ QX
    cases hA : mt env with
    | ex C fs s => rw [hA] at h; exact h
    | no => rw [hA] at h; exact h
    | ok k e1 =>
      rw [hA] at h
      cases k <;> exact h
end
@[simp] def mNil (e : Env) : R Env (List W) := .ok [] e
@[simp] def mCons (m : ME) (r : MA) (e : Env) : R Env (List W) := sq r (fun w ws => fzv w :: ws) (m e)
theorem fa_nil : FA X c Wx [] tNil mNil := va_nil.weak fun env Q QX h => h
theorem fa_cons {e : Expr} {es : List Expr} {te : TE} {t : TA} {m : ME} {r : MA} (h : FE X c Wx e te m) (hr : FA X c Wx es t r) (hs : starEach (e :: es) X.env = (false, eval e X.env) :: starEach es X.env := by rfl) : FA X c Wx (e :: es) (tCons te t) (mCons m r) :=
  (va_cons h hr hs).weak fun env Q QX h => po_sq h
noncomputable def dispK (f : List D → W) : R Env (List D) → R Env W
  | .ok ds e => opR e (lim ds.length (f ds))
  | .ex C fs s => .ex C fs s
  | .no => .no
@[simp] theorem dispK_c1 (f : List D → W) (ds e) : dispK f (.ok ds e) = opR e (lim ds.length (f ds)) := rfl
@[simp] theorem dispK_c2 (f : List D → W) (C fs s) : dispK f (.ex C fs s) = .ex C fs s := rfl
@[simp] theorem dispK_c3 (f : List D → W) : dispK f .no = .no := rfl
@[simp] noncomputable def mTup (t : MA) (e : Env) : R Env W := dispK (fun ds => .val (.tup ds)) (bd fzsM (t e))
@[simp] noncomputable def mLst (t : MA) (e : Env) : R Env W := dispK (fun ds => .tmp (.lst ds)) (bd fzsM (t e))
theorem po_disp {f : List D → W} {r : R Env (List D)} {Q : VQ} {QX : VX} (h : (dispK f r).po Q QX) : r.po (fun ds e => ds.length ≤ sizeLine ∧ Q (f ds) e) QX := by
  cases r with
  | ex C fs s => exact h
  | no => exact h
  | ok ds e =>
    simp only [dispK] at h
    cases h1 : lim ds.length (f ds) with
    | none => rw [h1] at h; exact h.elim
    | some w =>
      rw [h1] at h
      obtain ⟨h2, rfl⟩ := lim_some h1
      exact ⟨h2, h⟩
theorem fe_tup {es : List Expr} {t : TA} {v : MA} {x1 : Nat} {pos : Pos} (h : FA X c Wx es t v) : FE X c Wx (.Tuple es x1 pos) (tTupN t) (mTup v) :=
  (ve_tup h).weak fun env Q QX h => po_mono (po_bd (po_disp h)) fun ws e1 h1 => po_fzs h1
theorem fe_lst {es : List Expr} {t : TA} {v : MA} {pos : Pos} (h : FA X c Wx es t v) : FE X c Wx (.List es pos) (tLst t) (mLst v) :=
  (ve_lst h).weak fun env Q QX h => po_mono (po_bd (po_disp h)) fun ws e1 h1 => po_fzs h1
noncomputable def fIx : F2
  | .lst ds, .int i => (atI ds i).map .val
  | .tup ds, .int i => (atI ds i).map .val
  | .scr ds, .int i => (atI ds i).map .val
  | .str z, .int i => cif (z.length ≤ sizeLine) ((atI z.cps.toList i).map fun n => .val (.str ⟨#[n]⟩)) none
  | _, _ => none
@[simp] theorem fIx_c1  (ds i) : fIx (.lst ds) (.int i) = (atI ds i).map .val := rfl
@[simp] theorem fIx_c2  (ds i) : fIx (.tup ds) (.int i) = (atI ds i).map .val := rfl
@[simp] theorem fIx_c3  (ds i) : fIx (.scr ds) (.int i) = (atI ds i).map .val := rfl
@[simp] theorem fIx_str {z : Str} {i : Int} (h : z.length ≤ 16777216) : fIx (.str z) (.int i) = (atI z.cps.toList i).map fun n => .val (.str ⟨#[n]⟩) := cif_pos h
theorem opf_ix : OpF fIx dIx := by
  intro d1 d2 w Q h q
  unfold fIx at h
  split at h
  · rename_i ds i
    cases h1 : atI ds i with
    | none => rw [h1] at h; cases h
    | some d => rw [h1] at h; cases h; exact ⟨d, h1, q⟩
  · rename_i ds i
    cases h1 : atI ds i with
    | none => rw [h1] at h; cases h
    | some d => rw [h1] at h; cases h; exact ⟨d, h1, q⟩
  · rename_i ds i
    cases h1 : atI ds i with
    | none => rw [h1] at h; cases h
    | some d => rw [h1] at h; cases h; exact ⟨d, h1, q⟩
  · rename_i z i
    by_cases hz : z.length ≤ sizeLine
    · rw [cif_pos hz] at h
      cases h1 : atI z.cps.toList i with
      | none => rw [h1] at h; cases h
      | some d => rw [h1] at h; cases h; exact ⟨hz, d, h1, q⟩
    · rw [cif_neg hz] at h; cases h
  · cases h
theorem fe_ix {a b : Expr} {ta tb : TE} {ma mb : ME} {pos : Pos} (ha : FE X c Wx a ta ma) (hb : FE X c Wx b tb mb) (hs : PlainIx b := by intro _ _; rfl) : FE X c Wx (.Subscript a b pos) (tOp (rIx X.K) ta tb) (mOp fIx ma mb) :=
  (ve_ix ha hb hs).weak fun _ _ _ h => po_op opf_ix h
@[simp] def mNoPart (e : Env) : R Env (Option Int) := .ok none e
def partK : R Env W → R Env (Option Int)
  | .ok (.val (.int i)) e => .ok (some i) e
  | .ex C fs s => .ex C fs s
  | _ => .no
@[simp] theorem partK_c1  (i e) : partK (.ok (.val (.int i)) e) = .ok (some i) e := rfl
@[simp] theorem partK_c2  (C fs s) : partK (.ex C fs s) = .ex C fs s := rfl
@[simp] def mPart (m : ME) (e : Env) : R Env (Option Int) := partK (m e)
theorem fo_none : FO X c Wx none tNoPart mNoPart := vo_none.weak fun env Q QX h => h
theorem fo_some {e : Expr} {te : TE} {m : ME} (h : FE X c Wx e te m) : FO X c Wx (some e) (tPart te) (mPart m) := (vo_some h).weak fun env Q QX h => by
  have h : (partK (m env)).po Q QX := h
  show (m env).po _ QX
  cases hA : m env with
  | ex C fs s => rw [hA] at h; exact h
  | no => rw [hA] at h; exact h
  | ok w e1 =>
    rw [hA] at h
    cases w with
    | val d => cases d <;> exact h
    | cel i => exact h
    | tmp oc => exact h
noncomputable def slD : D → Option Int → Option Int → Option W
  | .lst ds, lo, hi => some (.tmp (.lst (cutD ds lo hi)))
  | .tup ds, lo, hi => some (.val (.tup (cutD ds lo hi)))
  | .str z, lo, hi => lim z.length (.val (.str (cutS z lo hi)))
  | _, _, _ => none
@[simp] theorem slD_c1  (ds lo hi) : slD (.lst ds) lo hi = some (.tmp (.lst (cutD ds lo hi))) := rfl
@[simp] theorem slD_c2  (ds lo hi) : slD (.tup ds) lo hi = some (.val (.tup (cutD ds lo hi))) := rfl
@[simp] theorem slD_c3  (z lo hi) : slD (.str z) lo hi = lim z.length (.val (.str (cutS z lo hi))) := rfl
noncomputable def sl4 (e : Env) (lo hi : Option Int) : Option D → R Env W
  | some d => opR e (slD d lo hi)
  | none => .no
@[simp] theorem sl4_c1 (e : Env) (lo hi : Option Int) (d) : sl4 e lo hi (some d) = opR e (slD d lo hi) := rfl
@[simp] theorem sl4_c2 (e : Env) (lo hi : Option Int) : sl4 e lo hi none = .no := rfl
noncomputable def sl3 (w : W) (lo : Option Int) : R Env (Option Int) → R Env W
  | .ok hi e => sl4 e lo hi (view (fzv w) e)
  | .ex C fs s => .ex C fs s
  | .no => .no
@[simp] theorem sl3_c1 (w : W) (lo : Option Int) (hi e) : sl3 w lo (.ok hi e) = sl4 e lo hi (view (fzv w) e) := rfl
@[simp] theorem sl3_c2 (w : W) (lo : Option Int) (C fs s) : sl3 w lo (.ex C fs s) = .ex C fs s := rfl
@[simp] theorem sl3_c3 (w : W) (lo : Option Int) : sl3 w lo .no = .no := rfl
noncomputable def sl2 (h : MO) (w : W) : R Env (Option Int) → R Env W
  | .ok lo e => sl3 w lo (h e)
  | .ex C fs s => .ex C fs s
  | .no => .no
@[simp] theorem sl2_c1 (h : MO) (w : W) (lo e) : sl2 h w (.ok lo e) = sl3 w lo (h e) := rfl
@[simp] theorem sl2_c2 (h : MO) (w : W) (C fs s) : sl2 h w (.ex C fs s) = .ex C fs s := rfl
@[simp] theorem sl2_c3 (h : MO) (w : W) : sl2 h w .no = .no := rfl
noncomputable def sl1 (l h : MO) : R Env W → R Env W
  | .ok w e => sl2 h w (l e)
  | .ex C fs s => .ex C fs s
  | .no => .no
@[simp] theorem sl1_c1 (l h : MO) (w e) : sl1 l h (.ok w e) = sl2 h w (l e) := rfl
@[simp] theorem sl1_c2 (l h : MO) (C fs s) : sl1 l h (.ex C fs s) = .ex C fs s := rfl
@[simp] theorem sl1_c3 (l h : MO) : sl1 l h .no = .no := rfl
@[simp] noncomputable def mSl (m : ME) (l h : MO) (e : Env) : R Env W := sl1 l h (m e)
theorem fe_sl {e : Expr} {lo hi : Option Expr} {te : TE} {tl th : TO} {m : ME} {l h : MO} {pos p2 : Pos} (he : FE X c Wx e te m) (hl : FO X c Wx lo tl l) (hh : FO X c Wx hi th h) : FE X c Wx (.Subscript e (.Slice lo hi none p2) pos) (tSl (rSlAll X.K) te tl th) (mSl m l h) :=
  (ve_sl he hl hh).weak fun env Q QX q => by
    have q : (sl1 l h (m env)).po Q QX := q
    show (m env).po _ QX
    cases hA : m env with
    | ex C fs s => rw [hA] at q; exact q
    | no => rw [hA] at q; exact q
    | ok w e1 =>
      rw [hA] at q
      have q : (sl2 h w (l e1)).po Q QX := q
      show (l e1).po _ QX
      cases hB : l e1 with
      | ex C fs s => rw [hB] at q; exact q
      | no => rw [hB] at q; exact q
      | ok lo e2 =>
        rw [hB] at q
        have q : (sl3 w lo (h e2)).po Q QX := q
        show (h e2).po _ QX
        cases hC : h e2 with
        | ex C fs s => rw [hC] at q; exact q
        | no => rw [hC] at q; exact q
        | ok hi e3 =>
          rw [hC] at q
          have q : (sl4 e3 lo hi (view (fzv w) e3)).po Q QX := q
          show rd (fzv w) e3 _
          unfold rd
          cases hD : view (fzv w) e3 with
          | none => rw [hD] at q; exact q
          | some d =>
            rw [hD] at q
            cases d with
            | lst ds => exact q
            | tup ds => exact q
            | str z =>
              have q : (opR e3 (lim z.length (.val (.str (cutS z lo hi))))).po Q QX := q
              cases h1 : lim z.length (W.val (.str (cutS z lo hi))) with
              | none => rw [h1] at q; exact q.elim
              | some w' =>
                rw [h1] at q
                obtain ⟨h2, rfl⟩ := lim_some h1
                exact ⟨h2, q⟩
            | _ => exact q.elim
abbrev F1 := List D → Option W
def CbF (f : F1) (g : GN) : Prop := ∀ ds w (Q : W → Prop), f ds = some w → Q w → g ds Q
def cb2 (f : F1) (e : Env) : Option (List D) → R Env W
  | some ds => opR e (f ds)
  | none => .no
@[simp] theorem cb2_c1 (f : F1) (e : Env) (ds) : cb2 f e (some ds) = opR e (f ds) := rfl
@[simp] theorem cb2_c2 (f : F1) (e : Env) : cb2 f e none = .no := rfl
def cb1 (f : F1) : R Env (List W) → R Env W
  | .ok ws e => cb2 f e (rdsM ws e)
  | .ex C fs s => .ex C fs s
  | .no => .no
@[simp] theorem cb1_c1 (f : F1) (ws e) : cb1 f (.ok ws e) = cb2 f e (rdsM ws e) := rfl
@[simp] theorem cb1_c2 (f : F1) (C fs s) : cb1 f (.ex C fs s) = .ex C fs s := rfl
@[simp] theorem cb1_c3 (f : F1) : cb1 f .no = .no := rfl
@[simp] def mCB (f : F1) (t : MA) (e : Env) : R Env W := cb1 f (t e)
theorem po_cb {f : F1} {g : GN} (hf : CbF f g) {t : MA} {env : Env} {Q : VQ} {QX : VX} (h : vR (mCB f t) env Q QX) : vCB g (vR t) env Q QX := by
  have h : (cb1 f (t env)).po Q QX := h
  show (t env).po _ QX
  cases hA : t env with
  | ex C fs s => rw [hA] at h; exact h
  | no => rw [hA] at h; exact h
  | ok ws e =>
    rw [hA] at h
    have h : (cb2 f e (rdsM ws e)).po Q QX := h
    cases h1 : rdsM ws e with
    | none => rw [h1] at h; exact h.elim
    | some ds =>
      rw [h1] at h
      have h : (opR e (f ds)).po Q QX := h
      refine rds_of h1 ?_
      cases h2 : f ds with
      | none => rw [h2] at h; exact h.elim
      | some w => rw [h2] at h; exact hf ds w _ h2 h
def fLen : F1
  | [.lst ds] => some (.val (.int ds.length))
  | [.tup ds] => some (.val (.int ds.length))
  | [.scr ds] => some (.val (.int ds.length))
  | [.str z] => lim z.length (.val (.int z.length))
  | _ => none
@[simp] theorem fLen_c1  (ds) : fLen [.lst ds] = some (.val (.int ds.length)) := rfl
@[simp] theorem fLen_c2  (ds) : fLen [.tup ds] = some (.val (.int ds.length)) := rfl
@[simp] theorem fLen_c3  (ds) : fLen [.scr ds] = some (.val (.int ds.length)) := rfl
@[simp] theorem fLen_c4  (z) : fLen [.str z] = lim z.length (.val (.int z.length)) := rfl
theorem cbf_len : CbF fLen dLen := by
  intro ds w Q h q
  unfold fLen at h
  split at h
  · cases h; exact q
  · cases h; exact q
  · cases h; exact q
  · obtain ⟨h1, rfl⟩ := lim_some h; exact ⟨h1, q⟩
  · cases h
noncomputable def intS (z : Str) : Option W := cif (z.length ≤ 640) ((PySem.intText? z).map fun n => .val (.int n)) none
noncomputable def fInt : F1
  | [.int i] => some (.val (.int i))
  | [.bl b] => some (.val (.int (if b then 1 else 0)))
  | [.str z] => intS z
  | _ => none
@[simp] theorem fInt_c1  (i) : fInt [.int i] = some (.val (.int i)) := rfl
@[simp] theorem fInt_c2  (b) : fInt [.bl b] = some (.val (.int (if b then 1 else 0))) := rfl
@[simp] theorem fInt_c3  (z) : fInt [.str z] = intS z := rfl
theorem cbf_int : CbF fInt dInt := by
  intro ds w Q h q
  unfold fInt at h
  split at h
  · cases h; exact q
  · cases h; exact q
  · rename_i z
    unfold intS at h
    by_cases hz : z.length ≤ 640
    · rw [cif_pos hz] at h
      cases h1 : PySem.intText? z with
      | none => rw [h1] at h; cases h
      | some n => rw [h1] at h; cases h; exact ⟨n, h1, hz, q⟩
    · rw [cif_neg hz] at h; cases h
  · cases h
def fAbs : F1
  | [.int i] => some (.val (.int (if i < 0 then -i else i)))
  | _ => none
@[simp] theorem fAbs_c1  (i) : fAbs [.int i] = some (.val (.int (if i < 0 then -i else i))) := rfl
def fMax2 : F1
  | [.int i, .int j] => some (.val (.int (if j > i then j else i)))
  | _ => none
@[simp] theorem fMax2_c1  (i j) : fMax2 [.int i, .int j] = some (.val (.int (if j > i then j else i))) := rfl
def fMin2 : F1
  | [.int i, .int j] => some (.val (.int (if j < i then j else i)))
  | _ => none
@[simp] theorem fMin2_c1  (i j) : fMin2 [.int i, .int j] = some (.val (.int (if j < i then j else i))) := rfl
theorem cbf_min2 : CbF fMin2 dMin2 := by
  intro ds w Q h q
  unfold fMin2 at h
  split at h
  · cases h; exact q
  · cases h
def fMax3 : F1
  | [.int i, .int j, .int k] => some (.val (.int (if (if i < j then j else i) < k then k else (if i < j then j else i))))
  | _ => none
@[simp] theorem fMax3_c1  (i j k) : fMax3 [.int i, .int j, .int k] = some (.val (.int (if (if i < j then j else i) < k then k else (if i < j then j else i)))) := rfl
theorem cbf_max3 : CbF fMax3 dMax3 := by
  intro ds w Q h q
  unfold fMax3 at h
  split at h
  · cases h; exact q
  · cases h
def fTuple : F1
  | [.lst ds] => some (.val (.tup ds))
  | [.tup ds] => some (.val (.tup ds))
  | _ => none
@[simp] theorem fTuple_c1  (ds) : fTuple [.lst ds] = some (.val (.tup ds)) := rfl
@[simp] theorem fTuple_c2  (ds) : fTuple [.tup ds] = some (.val (.tup ds)) := rfl
theorem cbf_tuple : CbF fTuple dTuple := by
  intro ds w Q h q
  unfold fTuple at h
  split at h
  · cases h; exact q
  · cases h; exact q
  · cases h
def fList : F1
  | [.lst ds] => some (.tmp (.lst ds))
  | [.tup ds] => some (.tmp (.lst ds))
  | _ => none
@[simp] theorem fList_c1  (ds) : fList [.lst ds] = some (.tmp (.lst ds)) := rfl
@[simp] theorem fList_c2  (ds) : fList [.tup ds] = some (.tmp (.lst ds)) := rfl
noncomputable def strI (i : Int) : Option W := cif (i.natAbs.log2 < 1920) (some (.val (.str (Str.ofString (toString i))))) none
theorem strI_of {i : Int} (h : i.natAbs.log2 < 1920) : strI i = some (.val (.str (Str.ofString (toString i)))) := cif_pos h
noncomputable def fStr : F1
  | [.int i] => strI i
  | _ => none
@[simp] theorem fStr_c1  (i) : fStr [.int i] = strI i := rfl
theorem cbf_str : CbF fStr dStr := by
  intro ds w Q h q
  unfold fStr at h
  split at h
  · rename_i i
    unfold strI at h
    by_cases hz : i.natAbs.log2 < 1920
    · rw [cif_pos hz] at h; cases h; exact ⟨hz, q⟩
    · rw [cif_neg hz] at h; cases h
  · cases h
def optW {α : Type} (f : α → W) : Option α → Option W
  | some a => some (f a)
  | none => none
@[simp] theorem optW_c1 {α : Type} (f : α → W) (a) : optW f (some a) = some (f a) := rfl
@[simp] theorem optW_c2 {α : Type} (f : α → W) : optW f none = none := rfl
def fAll : F1
  | [.lst ds] => optW (fun bs => .val (.bl (bs.all id))) (blsOf ds)
  | _ => none
@[simp] theorem fAll_c1  (ds) : fAll [.lst ds] = optW (fun bs => .val (.bl (bs.all id))) (blsOf ds) := rfl
theorem cbf_all : CbF fAll dAll := by
  intro ds w Q h q
  unfold fAll at h
  split at h
  · rename_i ds
    cases h1 : blsOf ds with
    | none => rw [h1] at h; cases h
    | some bs => rw [h1] at h; cases h; exact ⟨bs, blsOf_some h1, q⟩
  · cases h
def fAny : F1
  | [.lst ds] => optW (fun bs => .val (.bl (bs.any id))) (blsOf ds)
  | _ => none
@[simp] theorem fAny_c1  (ds) : fAny [.lst ds] = optW (fun bs => .val (.bl (bs.any id))) (blsOf ds) := rfl
def fSumL : F1
  | [.lst ds] => optW (fun ns => .val (.int ns.sum)) (intsOf ds)
  | _ => none
@[simp] theorem fSumL_c1  (ds) : fSumL [.lst ds] = optW (fun ns => .val (.int ns.sum)) (intsOf ds) := rfl
section
variable {a b d e : Expr} {t : TA} {v : MA} {p pos : Pos}
theorem fe_len (hm : X.mg "len" = none) (ha : FA X c Wx [e] t v) (hg : Gl X "len" := by rfl) (he : starEach [e] X.env = (false, eval e X.env) :: starEach [] X.env := by rfl) (hpl : (backTo pos (starEach [] X.env)).any (·.1) = false := by rfl) : FE X c Wx (.Call (.Name "len" p) [e] [] pos) (tCB (fun xs H Q => ∃ x n, xs = [x] ∧ LenV X.K x H n ∧ Q (.int n) H) t) (mCB fLen v) := (ve_len hm ha hg he hpl).weak fun _ _ _ h => po_cb cbf_len h
theorem fe_min2 (hm : X.mg "min" = none) (ha : FA X c Wx [a, b] t v) (hc : X.calm = true := by rfl) (hg : Gl X "min" := by rfl) (he : starEach [a, b] X.env = (false, eval a X.env) :: starEach [b] X.env := by rfl) (hpl : (backTo pos (starEach [b] X.env)).any (·.1) = false := by rfl) : FE X c Wx (.Call (.Name "min" p) [a, b] [] pos) (tCB (fun xs H Q => ∃ i j, xs = [.int i, .int j] ∧ Q (.int (if j < i then j else i)) H) t) (mCB fMin2 v) := (ve_min2 hm ha hc hg he hpl).weak fun _ _ _ h => po_cb cbf_min2 h
theorem fe_max3 (hm : X.mg "max" = none) (ha : FA X c Wx [a, b, d] t v) (hc : X.calm = true := by rfl) (hg : Gl X "max" := by rfl) (he : starEach [a, b, d] X.env = (false, eval a X.env) :: starEach [b, d] X.env := by rfl) (hpl : (backTo pos (starEach [b, d] X.env)).any (·.1) = false := by rfl) : FE X c Wx (.Call (.Name "max" p) [a, b, d] [] pos) (tCB (rNuC3 nuMax3) t) (mCB fMax3 v) := (ve_max3 hm ha hc hg he hpl).weak fun _ _ _ h => po_cb cbf_max3 h
theorem fe_intc (hm : X.mg "int" = none) (ha : FA X c Wx [e] t v) (hg : Gl X "int" := by rfl) (he : starEach [e] X.env = (false, eval e X.env) :: starEach [] X.env := by rfl) (hpl : (backTo pos (starEach [] X.env)).any (·.1) = false := by rfl) : FE X c Wx (.Call (.Name "int" p) [e] [] pos) (tCB rIntA t) (mCB fInt v) := (ve_intc hm ha hg he hpl).weak fun _ _ _ h => po_cb cbf_int h
theorem fe_strc (hm : X.mg "str" = none) (ha : FA X c Wx [e] t v) (hg : Gl X "str" := by rfl) (he : starEach [e] X.env = (false, eval e X.env) :: starEach [] X.env := by rfl) (hpl : (backTo pos (starEach [] X.env)).any (·.1) = false := by rfl) : FE X c Wx (.Call (.Name "str" p) [e] [] pos) (tCB (fun xs H Q => ∃ i, xs = [.int i] ∧ i.natAbs.log2 < 1920 ∧ Q (.str (toString i)) H) t) (mCB fStr v) := (ve_strc hm ha hg he hpl).weak fun _ _ _ h => po_cb cbf_str h
theorem fe_tuplec (hm : X.mg "tuple" = none) (ha : FA X c Wx [e] t v) (hg : Gl X "tuple" := by rfl) (he : starEach [e] X.env = (false, eval e X.env) :: starEach [] X.env := by rfl) (hpl : (backTo pos (starEach [] X.env)).any (·.1) = false := by rfl) : FE X c Wx (.Call (.Name "tuple" p) [e] [] pos) (tCB (fun xs H Q => ∃ p ys, xs = [.ref p] ∧ ((SqL X.K H p ys ∧ NewT H ys Q) ∨ (SqT X.K H p ys ∧ Q (.ref p) H))) t) (mCB fTuple v) := (ve_tuplec hm ha hg he hpl).weak fun _ _ _ h => po_cb cbf_tuple h
theorem fe_all (hm : X.mg "all" = none) (ha : FA X c Wx [e] t v) (hc : X.calm = true := by rfl) (hg : Gl X "all" := by rfl) (he : starEach [e] X.env = (false, eval e X.env) :: starEach [] X.env := by rfl) (hpl : (backTo pos (starEach [] X.env)).any (·.1) = false := by rfl) : FE X c Wx (.Call (.Name "all" p) [e] [] pos) (tCB (rAll X.K) t) (mCB fAll v) := (ve_all hm ha hc hg he hpl).weak fun _ _ _ h => po_cb cbf_all h
end
def isi3 (e : Env) : Option Bool → R Env W
  | some b => .ok (.val (.bl b)) e
  | none => .no
@[simp] theorem isi3_c1 (e : Env) (b) : isi3 e (some b) = .ok (.val (.bl b)) e := rfl
@[simp] theorem isi3_c2 (e : Env) : isi3 e none = .no := rfl
def isi2 (T : TyN) (e : Env) : Option D → R Env W
  | some d => isi3 e (isT T d)
  | none => .no
@[simp] theorem isi2_c1 (T : TyN) (e : Env) (d) : isi2 T e (some d) = isi3 e (isT T d) := rfl
@[simp] theorem isi2_c2 (T : TyN) (e : Env) : isi2 T e none = .no := rfl
def isiK (T : TyN) : R Env W → R Env W
  | .ok w e => isi2 T e (view w e)
  | .ex C fs s => .ex C fs s
  | .no => .no
@[simp] theorem isiK_c1 (T : TyN) (w e) : isiK T (.ok w e) = isi2 T e (view w e) := rfl
@[simp] theorem isiK_c2 (T : TyN) (C fs s) : isiK T (.ex C fs s) = .ex C fs s := rfl
@[simp] theorem isiK_c3 (T : TyN) : isiK T .no = .no := rfl
@[simp] def mIsi (T : TyN) (m : ME) (e : Env) : R Env W := isiK T (m e)
theorem fe_isi {x : Expr} {tx : TE} {m : ME} {p p2 pos : Pos} {n : Str} (T : TyN) (hm : X.mg "isinstance" = none) (hmT : X.mg n = none) (hT : bootBuiltins n = some (.type T.s)) (hx : FE X c Wx x tx m) (hg : Gl X "isinstance" := by rfl) (hgT : Gl X n := by rfl) (hn : n ≠ "__name__" := by decide) (hd : (n == ("__debug__" : Str)) = false := by decide)
    (he : starEach [x, .Name n p2] X.env = (false, eval x X.env) :: starEach [.Name n p2] X.env := by rfl) (he2 : starEach [.Name n p2] X.env = (false, eval (.Name n p2) X.env) :: starEach [] X.env := by rfl) (hpl : (backTo pos (starEach [.Name n p2] X.env)).any (·.1) = false := by rfl) :
    FE X c Wx (.Call (.Name "isinstance" p) [x, .Name n p2] [] pos) (tCB (rIsi X.K) (tCons tx (tCons (tC (.ty T.s)) tNil))) (mIsi T m) := (ve_isi T hm hmT hT hx hg hgT hn hd he he2 hpl).weak fun env Q QX h => by
  have h : (isiK T (m env)).po Q QX := h
  show (m env).po _ QX
  cases hA : m env with
  | ex C fs s => rw [hA] at h; exact h
  | no => rw [hA] at h; exact h
  | ok w e =>
    rw [hA] at h
    have h : (isi2 T e (view w e)).po Q QX := h
    show rd w e _
    unfold rd
    cases h1 : view w e with
    | none => rw [h1] at h; exact h
    | some d =>
      rw [h1] at h
      have h : (isi3 e (isT T d)).po Q QX := h
      show match isT T d with | some b => _ | none => _
      cases h2 : isT T d with
      | none => rw [h2] at h; exact h
      | some b => rw [h2] at h; exact h
noncomputable def joinS (a : Str) (ss : List Str) : Option W := cif ((ss.map (·.length)).sum + ss.length * a.length ≤ 16777216) (some (.val (.str (Txt.join a ss)))) none
@[simp] theorem joinS_of {a : Str} {ss : List Str} (h : (ss.map (·.length)).sum + ss.length * a.length ≤ 16777216) : joinS a ss = some (.val (.str (Txt.join a ss))) := cif_pos h
noncomputable def joinL (a : Str) : Option (List Str) → Option W
  | some ss => joinS a ss
  | none => none
@[simp] theorem joinL_c1 (a : Str) (ss) : joinL a (some ss) = joinS a ss := rfl
@[simp] theorem joinL_c2 (a : Str) : joinL a none = none := rfl
noncomputable def fJoin : F2
  | .str a, .tup ds => joinL a (strsOf ds)
  | .str a, .lst ds => joinL a (strsOf ds)
  | _, _ => none
@[simp] theorem fJoin_c1  (a ds) : fJoin (.str a) (.tup ds) = joinL a (strsOf ds) := rfl
@[simp] theorem fJoin_c2  (a ds) : fJoin (.str a) (.lst ds) = joinL a (strsOf ds) := rfl
def j3 (f : F2) (e : Env) (a : D) : Option D → R Env W
  | some d => opR e (f a d)
  | none => .no
@[simp] theorem j3_c1 (f : F2) (e : Env) (a : D) (d) : j3 f e a (some d) = opR e (f a d) := rfl
@[simp] theorem j3_c2 (f : F2) (e : Env) (a : D) : j3 f e a none = .no := rfl
def j2 (f : F2) (a : D) : R Env W → R Env W
  | .ok w e => j3 f e a (view w e)
  | .ex C fs s => .ex C fs s
  | .no => .no
@[simp] theorem j2_c1 (f : F2) (a : D) (w e) : j2 f a (.ok w e) = j3 f e a (view w e) := rfl
@[simp] theorem j2_c2 (f : F2) (a : D) (C fs s) : j2 f a (.ex C fs s) = .ex C fs s := rfl
@[simp] theorem j2_c3 (f : F2) (a : D) : j2 f a .no = .no := rfl
def j1 (f : F2) (b : ME) : R Env W → R Env W
  | .ok (.val (.str a)) e => j2 f (.str a) (b e)
  | .ex C fs s => .ex C fs s
  | _ => .no
@[simp] theorem j1_c1 (f : F2) (b : ME) (a e) : j1 f b (.ok (.val (.str a)) e) = j2 f (.str a) (b e) := rfl
@[simp] theorem j1_c2 (f : F2) (b : ME) (C fs s) : j1 f b (.ex C fs s) = .ex C fs s := rfl
@[simp] def mSM (f : F2) (a b : ME) (e : Env) : R Env W := j1 f b (a e)
theorem fe_join {o e : Expr} {to te : TE} {mo me : ME} {apos pos : Pos} (ho : FE X c Wx o to mo) (he : FE X c Wx e te me) (hs : starEach [e] X.env = [(false, eval e X.env)] := by rfl) (hbase : attributeBase o "join" X.env (eval o X.env) = eval o X.env := by rfl) (hline : (apos.endLine == pos.line) = true := by rfl) :
    FE X c Wx (.Call (.Attribute o "join" apos) [e] [] pos) (tM1 (fun x xs H Q => ∃ a p, ∃ ys : List Str, x = .str a ∧ xs = [.ref p] ∧ (SqL X.K H p (ys.map V.str) ∨ SqT X.K H p (ys.map V.str)) ∧
      (ys.map (·.length)).sum + ys.length * a.length ≤ 16777216 ∧ Q (.str (Txt.join a ys)) H) to te) (mSM fJoin mo me) := (ve_join ho he hs hbase hline).weak fun env Q QX h => by
  have h : (j1 fJoin me (mo env)).po Q QX := h
  show (mo env).po _ QX
  cases hA : mo env with
  | ex C fs s => rw [hA] at h; exact h
  | no => rw [hA] at h; exact h
  | ok w e =>
    rw [hA] at h
    cases w with
    | cel i => exact h.elim
    | tmp oc => exact h.elim
    | val d =>
      cases d with
      | str a =>
        have h : (j2 fJoin (.str a) (me e)).po Q QX := h
        show (me e).po _ QX
        cases hB : me e with
        | ex C fs s => rw [hB] at h; exact h
        | no => rw [hB] at h; exact h
        | ok w2 e2 =>
          rw [hB] at h
          have h : (j3 fJoin e2 (.str a) (view w2 e2)).po Q QX := h
          show rd w2 e2 _
          unfold rd
          cases h1 : view w2 e2 with
          | none => rw [h1] at h; exact h
          | some d2 =>
            rw [h1] at h
            have h : (opR e2 (fJoin (.str a) d2)).po Q QX := h
            have key : ∀ ds : List D, (opR e2 (joinL a (strsOf ds))).po Q QX → ∃ ss : List Str, ds = ss.map D.str ∧ (ss.map (·.length)).sum + ss.length * a.length ≤ 16777216 ∧ Q (.val (.str (Txt.join a ss))) e2 := fun ds h => by
              cases h2 : strsOf ds with
              | none => rw [h2] at h; exact h.elim
              | some ss =>
                rw [h2] at h
                have h : (opR e2 (joinS a ss)).po Q QX := h
                unfold joinS at h
                by_cases hz : (ss.map (·.length)).sum + ss.length * a.length ≤ 16777216
                · rw [cif_pos hz] at h; exact ⟨ss, strsOf_some h2, hz, h⟩
                · rw [cif_neg hz] at h; exact h.elim
            cases d2 with
            | tup ds => exact key ds h
            | lst ds => exact key ds h
            | _ => exact h.elim
      | _ => exact h.elim
noncomputable def splitS (a b : Str) : Option W := cif ((b.length == 0) = false ∧ a.length + 2 ≤ sizeLine) (some (.tmp (.lst ((Txt.split a b).map D.str)))) none
@[simp] theorem splitS_of {a b : Str} (h : (b.length == 0) = false) (h2 : a.length ≤ 16777214) : splitS a b = some (.tmp (.lst ((Txt.split a b).map D.str))) := cif_pos ⟨h, show a.length + 2 ≤ 16777216 by omega⟩
def ss2 (f : Str → Str → Option W) (a : Str) : R Env W → R Env W
  | .ok (.val (.str b)) e => opR e (f a b)
  | .ex C fs s => .ex C fs s
  | _ => .no
@[simp] theorem ss2_c1 (f : Str → Str → Option W) (a : Str) (b e) : ss2 f a (.ok (.val (.str b)) e) = opR e (f a b) := rfl
@[simp] theorem ss2_c2 (f : Str → Str → Option W) (a : Str) (C fs s) : ss2 f a (.ex C fs s) = .ex C fs s := rfl
def ss1 (f : Str → Str → Option W) (b : ME) : R Env W → R Env W
  | .ok (.val (.str a)) e => ss2 f a (b e)
  | .ex C fs s => .ex C fs s
  | _ => .no
@[simp] theorem ss1_c1 (f : Str → Str → Option W) (b : ME) (a e) : ss1 f b (.ok (.val (.str a)) e) = ss2 f a (b e) := rfl
@[simp] theorem ss1_c2 (f : Str → Str → Option W) (b : ME) (C fs s) : ss1 f b (.ex C fs s) = .ex C fs s := rfl
@[simp] def mSS (f : Str → Str → Option W) (a b : ME) (e : Env) : R Env W := ss1 f b (a e)
theorem po_ss {f : Str → Str → Option W} {a b : ME} {env : Env} {Q : VQ} {QX : VX} (h : vR (mSS f a b) env Q QX) : vR a env (fun w1 env1 => strW w1 fun x => vR b env1 (fun w2 env2 => strW w2 fun y => ∃ w, f x y = some w ∧ Q w env2) QX) QX := by
  have h : (ss1 f b (a env)).po Q QX := h
  show (a env).po _ QX
  cases hA : a env with
  | ex C fs s => rw [hA] at h; exact h
  | no => rw [hA] at h; exact h
  | ok w e =>
    rw [hA] at h
    cases w with
    | cel i => exact h.elim
    | tmp oc => exact h.elim
    | val d =>
      cases d with
      | str x =>
        have h : (ss2 f x (b e)).po Q QX := h
        show (b e).po _ QX
        cases hB : b e with
        | ex C fs s => rw [hB] at h; exact h
        | no => rw [hB] at h; exact h
        | ok w2 e2 =>
          rw [hB] at h
          cases w2 with
          | cel i => exact h.elim
          | tmp oc => exact h.elim
          | val d2 =>
            cases d2 with
            | str y =>
              have h : (opR e2 (f x y)).po Q QX := h
              show ∃ w, f x y = some w ∧ Q w e2
              cases h2 : f x y with
              | none => rw [h2] at h; exact h.elim
              | some w => rw [h2] at h; exact ⟨w, rfl, h⟩
            | _ => exact h.elim
      | _ => exact h.elim
theorem fe_split {o e : Expr} {to te : TE} {mo me : ME} {apos pos : Pos} (ho : FE X c Wx o to mo) (he : FE X c Wx e te me) (hs : starEach [e] X.env = [(false, eval e X.env)] := by rfl) (hbase : attributeBase o "split" X.env (eval o X.env) = eval o X.env := by rfl) (hline : (apos.endLine == pos.line) = true := by rfl) :
    FE X c Wx (.Call (.Attribute o "split" apos) [e] [] pos) (tM1 (fun x xs H Q => ∃ a b, x = .str a ∧ xs = [.str b] ∧ (b.length == 0) = false ∧ a.length + 2 ≤ sizeLine ∧ rNewStrs (Txt.split a b) H Q) to te) (mSS splitS mo me) := (ve_split ho he hs hbase hline).weak fun env Q QX h => by
  refine po_mono (po_ss h) fun w e h1 => ?_
  obtain ⟨a, rfl, h1⟩ := strW_of h1
  refine po_mono h1 fun w e h2 => ?_
  obtain ⟨b, rfl, w, h3, h2⟩ := strW_of h2
  unfold splitS at h3
  by_cases hz : (b.length == 0) = false ∧ a.length + 2 ≤ sizeLine
  · rw [cif_pos hz] at h3; cases h3; exact ⟨hz.1, hz.2, h2⟩
  · rw [cif_neg hz] at h3; cases h3
end
end
end VL
set_option Elab.async false
set_option linter.all false
set_option maxRecDepth 100000
set_option maxHeartbeats 4000000
namespace VL
noncomputable section
open PySem PySem.Spec PyProof.Rows L2
variable [CM]
section
variable {K : PySem.W.Frag} {c : VC} {Wx : WX} {X : Cx}
def spF (F : FN) : VSp := fun ms A B => match F ms with
  | .ok w outs => A w outs
  | .ex C fs outs => B C fs outs
  | .no => False
def argO : Option (Option M) → Option M
  | some (some m) => some m
  | _ => none
@[simp] theorem argO_c1  (m) : argO (some (some m)) = some m := rfl
def arg1 : W → Env → Option M
  | .val d, _ => some (.val d)
  | .cel i, e => argO e[i]?
  | .tmp _, _ => none
@[simp] theorem arg1_c1  (i e) : arg1 (.cel i) e = argO e[i]? := rfl
@[simp] theorem arg1_v (d : D) (e : Env) : arg1 (.val d) e = some (.val d) := rfl
@[simp] theorem arg1_t (oc : OC) (e : Env) : arg1 (.tmp oc) e = none := rfl
@[simp] def argsF : List W → Env → Option (List M)
  | [], _ => some []
  | w :: ws, e => match arg1 w e, argsF ws e with
    | some m, some ms => some (m :: ms)
    | _, _ => none
@[simp] def ndB : List Nat → Bool
  | [] => true
  | x :: xs => !(xs.contains x) && ndB xs
theorem ndB_of : ∀ {l : List Nat}, ndB l = true → l.Nodup
  | [], _ => List.nodup_nil
  | x :: xs, h => by
    simp only [ndB, Bool.and_eq_true, Bool.not_eq_true', List.contains_eq_mem, decide_eq_false_iff_not] at h
    exact List.nodup_cons.mpr ⟨h.1, ndB_of h.2⟩
@[simp] def wbF : Env → List W → List M → Env
  | e, .cel i :: ws, .own oc :: os => (wbF e ws os).set i (some (.own oc))
  | e, .cel _ :: ws, .val _ :: os => wbF e ws os
  | e, .val _ :: ws, _ :: os => wbF e ws os
  | e, .tmp _ :: ws, _ :: os => wbF e ws os
  | e, _, _ => e
theorem wbF_get : ∀ (ws : List W) (os : List M) (e : Env) (j : Nat), (wbF e ws os)[j]? = e[j]?.map fun m => match fnd j ws os with
    | some oc => some (.own oc)
    | none => m
  | [], os, e, j => by cases os <;> simp [wbF, fnd]
  | .val d :: ws, [], e, j => by simp [wbF, fnd]
  | .tmp d :: ws, [], e, j => by simp [wbF, fnd]
  | .cel d :: ws, [], e, j => by simp [wbF, fnd]
  | .val d :: ws, o :: os, e, j => by simpa [wbF, fnd] using wbF_get ws os e j
  | .tmp d :: ws, o :: os, e, j => by simpa [wbF, fnd] using wbF_get ws os e j
  | .cel i :: ws, .val d :: os, e, j => by simpa [wbF, fnd] using wbF_get ws os e j
  | .cel i :: ws, .own oc :: os, e, j => by
    have ih := wbF_get ws os e j
    show ((wbF e ws os).set i (some (.own oc)))[j]? = _
    by_cases h : i = j
    · subst h
      rw [List.getElem?_set_self', ih]
      simp [fnd]
      cases e[i]? <;> simp
    · rw [List.getElem?_set_ne h, ih]
      have e1 : fnd j (.cel i :: ws) (.own oc :: os) = fnd j ws os := by simp [fnd, h]
      rw [e1]
theorem wbF_eq (e : Env) (ws : List W) (os : List M) : wbF e ws os = wb e ws os := by
  apply List.ext_getElem?
  intro j
  exact (wbF_get ..).trans (wb_get ..).symm
def call3 (e : Env) (ws : List W) : R (List M) W → R Env W
  | .ok w os => .ok w (wbF e ws os)
  | .ex C fs os => .ex C fs (wbF e ws os)
  | .no => .no
@[simp] theorem call3_c1 (e : Env) (ws : List W) (w os) : call3 e ws (.ok w os) = .ok w (wbF e ws os) := rfl
@[simp] theorem call3_c2 (e : Env) (ws : List W) (C fs os) : call3 e ws (.ex C fs os) = .ex C fs (wbF e ws os) := rfl
@[simp] theorem call3_c3 (e : Env) (ws : List W) : call3 e ws .no = .no := rfl
def call2 (F : FN) (e : Env) (ws : List W) : Bool → Option (List M) → R Env W
  | true, some ms => call3 e ws (F ms)
  | _, _ => .no
@[simp] theorem call2_c1 (F : FN) (e : Env) (ws : List W) (ms) : call2 F e ws true (some ms) = call3 e ws (F ms) := rfl
def call1 (F : FN) : R Env (List W) → R Env W
  | .ok ws e => call2 F e ws (ndB (cels ws e)) (argsF ws e)
  | .ex C fs s => .ex C fs s
  | .no => .no
@[simp] theorem call1_c1 (F : FN) (ws e) : call1 F (.ok ws e) = call2 F e ws (ndB (cels ws e)) (argsF ws e) := rfl
@[simp] theorem call1_c2 (F : FN) (C fs s) : call1 F (.ex C fs s) = .ex C fs s := rfl
@[simp] theorem call1_c3 (F : FN) : call1 F .no = .no := rfl
@[simp] def mCall (F : FN) (t : MA) (e : Env) : R Env W := call1 F (t e)
theorem argMs_of : ∀ {ws : List W} {e : Env} {ms : List M} {k : List M → Prop}, argsF ws e = some ms → k ms → argMs ws e k
  | [], e, ms, k, h, q => by cases h; exact q
  | w :: ws, e, ms, k, h, q => by
    unfold argsF at h
    split at h
    · rename_i m ms' h1 h2
      cases h
      have q' : argMs ws e fun ms => k (m :: ms) := argMs_of h2 q
      show argM w e _
      cases w with
      | val d => cases h1; exact q'
      | tmp oc => cases h1
      | cel i =>
        rw [argM_cel]
        have h1 : argO e[i]? = some m := h1
        generalize e[i]? = o at h1
        rcases o with _ | _ | m'
        · cases h1
        · cases h1
        · cases h1; exact q'
    · cases h
theorem po_call {F : FN} {t : MA} {env : Env} {Q : VQ} {QX : VX} (h : vR (mCall F t) env Q QX) : vCall (spF F) (vR t) env Q QX := by
  have h : (call1 F (t env)).po Q QX := h
  show (t env).po _ QX
  cases hA : t env with
  | ex C fs s => rw [hA] at h; exact h
  | no => rw [hA] at h; exact h
  | ok ws e =>
    rw [hA] at h
    have h : (call2 F e ws (ndB (cels ws e)) (argsF ws e)).po Q QX := h
    cases h1 : ndB (cels ws e) with
    | false => rw [h1] at h; cases h2 : argsF ws e <;> rw [h2] at h <;> exact h.elim
    | true =>
      cases h2 : argsF ws e with
      | none => rw [h1, h2] at h; exact h.elim
      | some ms =>
        rw [h1, h2] at h
        have h : (call3 e ws (F ms)).po Q QX := h
        refine argMs_of h2 ⟨ndB_of h1, ?_⟩
        unfold spF
        cases hF : F ms with
        | no => rw [hF] at h; exact h
        | ok w os => rw [hF] at h; show Q w (wb e ws os); rw [← wbF_eq]; exact h
        | ex C fs os => rw [hF] at h; show QX C fs (wb e ws os); rw [← wbF_eq]; exact h
theorem fe_fn {x : Str} {k : Nat} {ps : List Str} {F : FN} {fa : Addr} {fd : FuncData} {p pos : Pos} {e : Expr} {es : List Expr} {t : TA} {v : MA} (C : Callee X.prog X.w X.K X.mg X.base c.T x k ps (spF F) fa fd) (hr : Room k X.A) (hx : L2N.Takes X Wx)
    (ha : FA X c Wx (e :: es) t v) (hg : Gl X x := by rfl) (hdb : (x == ("__debug__" : Str)) = false := by decide) (he : starEach (e :: es) X.env = (false, eval e X.env) :: starEach es X.env := by rfl) (hpl : (backTo pos (starEach es X.env)).any (·.1) = false := by rfl) :
    FE X c Wx (.Call (.Name x p) (e :: es) [] pos) (tCallSD (spOf X.K c.T (spF F)) [] (WE Wx) t) (mCall F v) := (ve_fn C hr hx ha hg hdb he hpl).weak fun env Q QX h => po_call h
def callT3 (e : Env) (ws : List W) : R (List M) W → R Env W
  | .ok w os => .ok w (wbF e ws os.tail)
  | .ex C fs os => .ex C fs (wbF e ws os.tail)
  | .no => .no
@[simp] theorem callT3_c1 (e : Env) (ws : List W) (w os) : callT3 e ws (.ok w os) = .ok w (wbF e ws os.tail) := rfl
@[simp] theorem callT3_c2 (e : Env) (ws : List W) (C fs os) : callT3 e ws (.ex C fs os) = .ex C fs (wbF e ws os.tail) := rfl
@[simp] theorem callT3_c3 (e : Env) (ws : List W) : callT3 e ws .no = .no := rfl
def callT2 (F : FN) (oc : OC) (e : Env) (ws : List W) : Bool → Option (List M) → R Env W
  | true, some ms => callT3 e ws (F (.own oc :: ms))
  | _, _ => .no
@[simp] theorem callT2_c1 (F : FN) (oc : OC) (e : Env) (ws : List W) (ms) : callT2 F oc e ws true (some ms) = callT3 e ws (F (.own oc :: ms)) := rfl
def callT1 (F : FN) (oc : OC) : R Env (List W) → R Env W
  | .ok ws e => callT2 F oc e ws (ndB (cels ws e)) (argsF ws e)
  | .ex C fs s => .ex C fs s
  | .no => .no
@[simp] theorem callT1_c1 (F : FN) (oc : OC) (ws e) : callT1 F oc (.ok ws e) = callT2 F oc e ws (ndB (cels ws e)) (argsF ws e) := rfl
@[simp] theorem callT1_c2 (F : FN) (oc : OC) (C fs s) : callT1 F oc (.ex C fs s) = .ex C fs s := rfl
@[simp] theorem callT1_c3 (F : FN) (oc : OC) : callT1 F oc .no = .no := rfl
def callT0 (F : FN) (t : MA) : R Env W → R Env W
  | .ok (.tmp oc) e => callT1 F oc (t e)
  | .ex C fs s => .ex C fs s
  | _ => .no
@[simp] theorem callT0_c1 (F : FN) (t : MA) (oc e) : callT0 F t (.ok (.tmp oc) e) = callT1 F oc (t e) := rfl
@[simp] theorem callT0_c2 (F : FN) (t : MA) (C fs s) : callT0 F t (.ex C fs s) = .ex C fs s := rfl
@[simp] def mCallT (F : FN) (m : ME) (t : MA) (e : Env) : R Env W := callT0 F t (m e)
theorem po_callT {F : FN} {m : ME} {t : MA} {env : Env} {Q : VQ} {QX : VX} (h : vR (mCallT F m t) env Q QX) : vCallT (spF F) (vR m) (vR t) env Q QX := by
  have h : (callT0 F t (m env)).po Q QX := h
  show (m env).po _ QX
  cases hM : m env with
  | ex C fs s => rw [hM] at h; exact h
  | no => rw [hM] at h; exact h
  | ok w0 e0 =>
    rw [hM] at h
    cases w0 with
    | val d => exact h.elim
    | cel i => exact h.elim
    | tmp oc =>
      have h : (callT1 F oc (t e0)).po Q QX := h
      show (t e0).po _ QX
      cases hA : t e0 with
      | ex C fs s => rw [hA] at h; exact h
      | no => rw [hA] at h; exact h
      | ok ws e =>
        rw [hA] at h
        have h : (callT2 F oc e ws (ndB (cels ws e)) (argsF ws e)).po Q QX := h
        cases h1 : ndB (cels ws e) with
        | false => rw [h1] at h; cases h2 : argsF ws e <;> rw [h2] at h <;> exact h.elim
        | true =>
          cases h2 : argsF ws e with
          | none => rw [h1, h2] at h; exact h.elim
          | some ms =>
            rw [h1, h2] at h
            have h : (callT3 e ws (F (.own oc :: ms))).po Q QX := h
            refine argMs_of h2 ⟨ndB_of h1, ?_⟩
            unfold spF
            cases hF : F (.own oc :: ms) with
            | no => rw [hF] at h; exact h
            | ok w os => rw [hF] at h; show Q w (wb e ws os.tail); rw [← wbF_eq]; exact h
            | ex C fs os => rw [hF] at h; show QX C fs (wb e ws os.tail); rw [← wbF_eq]; exact h
theorem fe_fnT {x : Str} {k : Nat} {ps : List Str} {F : FN} {fa : Addr} {fd : FuncData} {p pos : Pos} {e : Expr} {es : List Expr} {t0 : TE} {m : ME} {t : TA} {v : MA} (C : Callee X.prog X.w X.K X.mg X.base c.T x k ps (spF F) fa fd) (hr : Room k X.A) (hx : L2N.Takes X Wx)
    (h0 : FE X c Wx e t0 m) (ha : FA X c Wx es t v) (hg : Gl X x := by rfl) (hdb : (x == ("__debug__" : Str)) = false := by decide) (he : starEach (e :: es) X.env = (false, eval e X.env) :: starEach es X.env := by rfl) (hpl : (backTo pos (starEach es X.env)).any (·.1) = false := by rfl) :
    FE X c Wx (.Call (.Name x p) (e :: es) [] pos) (tCallSD (spOf X.K c.T (spF F)) [] (WE Wx) (tCons t0 t)) (mCallT F m v) := (ve_fnT C hr hx h0 ha hg hdb he hpl).weak fun env Q QX h => po_callT h
noncomputable def app4 (j : Nat) (d : D) (e : Env) : Option (Option M) → R Env W
  | some (some (.own (.lst ds))) => cif (ds.length < sizeLine) (.ok (.val .non) (e.set j (some (.own (.lst (ds ++ [d])))))) .no
  | _ => .no
@[simp] theorem app4_own {j : Nat} {d : D} {e : Env} {ds : List D} (h : ds.length < 16777216) : app4 j d e (some (some (.own (.lst ds)))) = .ok (.val .non) (e.set j (some (.own (.lst (ds ++ [d]))))) := cif_pos h
noncomputable def app3 (j : Nat) : R Env D → R Env W
  | .ok d e => app4 j d e e[j]?
  | .ex C fs s => .ex C fs s
  | .no => .no
@[simp] theorem app3_c1 (j : Nat) (d e) : app3 j (.ok d e) = app4 j d e e[j]? := rfl
@[simp] theorem app3_c2 (j : Nat) (C fs s) : app3 j (.ex C fs s) = .ex C fs s := rfl
@[simp] theorem app3_c3 (j : Nat) : app3 j .no = .no := rfl
noncomputable def app2 (j : Nat) (m : ME) (e : Env) : Option (Option M) → R Env W
  | some (some (.own (.lst _))) => app3 j (bd (fun w e => fzM (fzv w) e) (m e))
  | _ => .no
@[simp] theorem app2_c1 (j : Nat) (m : ME) (e : Env) (x1) : app2 j m e (some (some (.own (.lst x1)))) = app3 j (bd (fun w e => fzM (fzv w) e) (m e)) := rfl
noncomputable def app1 (m : ME) : R Env W → R Env W
  | .ok (.cel j) e => app2 j m e e[j]?
  | .ex C fs s => .ex C fs s
  | _ => .no
@[simp] theorem app1_c1 (m : ME) (j e) : app1 m (.ok (.cel j) e) = app2 j m e e[j]? := rfl
@[simp] theorem app1_c2 (m : ME) (C fs s) : app1 m (.ex C fs s) = .ex C fs s := rfl
@[simp] noncomputable def mApp (o m : ME) (e : Env) : R Env W := app1 m (o e)
theorem fe_append {o e : Expr} {to : TE} {mo m : ME} {te : TE} {apos cpos : Pos} (ho : FE X c Wx o to mo) (ha : FE X c Wx e te m)
    (hbase : attributeBase o "append" X.env (eval o X.env) = eval o X.env := by rfl)
    (hfew : ((backTo cpos (starEach [e] X.env)).all (fun x => !x.1) && (backToKw cpos (keywordEach [] X.env)).all (fun x => x.1.isSome)
      && decide ([e].length + ([] : List Keyword).length + (if ([] : List Keyword).isEmpty then 0 else 1) < 30)) = true := by rfl)
    (hline : (apos.endLine == cpos.line) = true := by rfl) (hs : starEach [e] X.env = (false, eval e X.env) :: starEach [] X.env := by rfl) (hplain : (backTo cpos (starEach [] X.env)).any (·.1) = false := by rfl) :
    FE X c Wx (.Call (.Attribute o "append" apos) [e] [] cpos) (tBM X.K "list" rAppend to (tCons te tNil)) (mApp mo m) := (ve_append ho (fa_cons ha fa_nil hs) hbase hfew hline hs hplain).weak fun env Q QX h => by
  have h : (app1 m (mo env)).po Q QX := h
  show (mo env).po _ QX
  cases hM : mo env with
  | ex C fs s => rw [hM] at h; exact h
  | no => rw [hM] at h; exact h
  | ok w0 e0 =>
    rw [hM] at h
    cases w0 with
    | val d => exact h.elim
    | tmp oc => exact h.elim
    | cel j =>
      have h : (app2 j m e0 e0[j]?).po Q QX := h
      show match e0[j]? with | some (some (.own (.lst _))) => _ | _ => False
      generalize e0[j]? = o0 at h
      rcases o0 with _ | _ | d | ⟨⟩ | oc
      · exact h.elim
      · exact h.elim
      · exact h.elim
      · have h : (app3 j (bd (fun w e => fzM (fzv w) e) (m e0))).po Q QX := h
        show (mCons m mNil e0).po _ QX
        show (sq mNil (fun w ws => fzv w :: ws) (m e0)).po _ QX
        cases hB : m e0 with
        | ex C fs s => rw [hB] at h; exact h
        | no => rw [hB] at h; exact h
        | ok w e1 =>
          rw [hB] at h
          have h : (app3 j (fzM (fzv w) e1)).po Q QX := h
          show fz (fzv w) e1 (fun d env3 => match env3[j]? with
            | some (some (M.own (OC.lst ds))) => ds.length < sizeLine ∧ Q (W.val D.non) (List.set env3 j (some (M.own (OC.lst (ds ++ [d])))))
            | x => False)
          refine po_fz (QX := QX) ?_
          cases hC : fzM (fzv w) e1 with
          | ex C fs s => rw [hC] at h; exact h
          | no => rw [hC] at h; exact h
          | ok d e2 =>
            rw [hC] at h
            have h : (app4 j d e2 e2[j]?).po Q QX := h
            show match e2[j]? with | some (some (.own (.lst ds))) => _ | _ => False
            generalize e2[j]? = o2 at h
            rcases o2 with _ | _ | d' | ⟨⟩ | oc
            · exact h.elim
            · exact h.elim
            · exact h.elim
            · rename_i ds2
              simp only [app4] at h
              by_cases hz : ds2.length < sizeLine
              · rw [cif_pos hz] at h; exact ⟨hz, h⟩
              · rw [cif_neg hz] at h; exact h.elim
            · exact h.elim
      · exact h.elim
inductive SR where
  | nx (e : Env)
  | rt (w : W) (e : Env)
  | bk (e : Env)
  | ct (e : Env)
  | ex (C : Str) (fs : List (Str × D)) (e : Env)
  | no
abbrev MS := Env → SR
def SR.po (r : SR) (DV : VEnds) : Prop := match r with
  | .nx e => DV.nx e
  | .rt w e => DV.rt w e
  | .bk e => DV.bk e
  | .ct e => DV.ct e
  | .ex C fs e => DV.ex C fs e
  | .no => False
def vS (m : MS) : VS := fun DV env => (m env).po DV
abbrev FSt (X : Cx) (c : VC) (Wx : WX) (st : Stmt) (ts : TS) (m : MS) : Prop := VSt X c Wx st ts (vS m)
abbrev FSs (X : Cx) (c : VC) (Wx : WX) (st : List Stmt) (ts : TS) (m : MS) : Prop := VSs X c Wx st ts (vS m)
theorem VSt.weak {e : Stmt} {te : TS} {t t' : VS} (h : VSt X c Wx e te t) (hw : ∀ DV env, t' DV env → t DV env) : VSt X c Wx e te t' :=
  ⟨h.ps, fun f Hb env σ H DV D R q k => h.sim f Hb env σ H DV D R (hw _ _ q) k⟩
theorem VSs.weak {e : List Stmt} {te : TS} {t t' : VS} (h : VSs X c Wx e te t) (hw : ∀ DV env, t' DV env → t DV env) : VSs X c Wx e te t' :=
  ⟨h.ps, fun f Hb env σ H DV D R q k => h.sim f Hb env σ H DV D R (hw _ _ q) k⟩
def toS {α : Type} (k : α → Env → SR) : R Env α → SR
  | .ok a e => k a e
  | .ex C fs s => .ex C fs s
  | .no => .no
@[simp] theorem toS_c1 {α : Type} (k : α → Env → SR) (a e) : toS k (.ok a e) = k a e := rfl
@[simp] theorem toS_c2 {α : Type} (k : α → Env → SR) (C fs s) : toS k (.ex C fs s) = .ex C fs s := rfl
@[simp] theorem toS_c3 {α : Type} (k : α → Env → SR) : toS k .no = .no := rfl
@[simp] def mNext (e : Env) : SR := .nx e
def seqK (b : MS) : SR → SR
  | .nx e => b e
  | .rt w e => .rt w e
  | .bk e => .bk e
  | .ct e => .ct e
  | .ex C fs e => .ex C fs e
  | .no => .no
@[simp] theorem seqK_c1 (b : MS) (e) : seqK b (.nx e) = b e := rfl
@[simp] theorem seqK_c2 (b : MS) (w e) : seqK b (.rt w e) = .rt w e := rfl
@[simp] theorem seqK_c3 (b : MS) (e) : seqK b (.bk e) = .bk e := rfl
@[simp] theorem seqK_c4 (b : MS) (e) : seqK b (.ct e) = .ct e := rfl
@[simp] theorem seqK_c5 (b : MS) (C fs e) : seqK b (.ex C fs e) = .ex C fs e := rfl
@[simp] theorem seqK_c6 (b : MS) : seqK b .no = .no := rfl
@[simp] def mSeq (a b : MS) (e : Env) : SR := seqK b (a e)
theorem fss_nil : FSs X c Wx [] tNext mNext := vss_nil.weak fun _ _ h => h
theorem fss_one {st : Stmt} {ts : TS} {t : MS} (h : FSt X c Wx st ts t) : FSs X c Wx [st] ts t := vss_one h
theorem fss_cons {st : Stmt} {rest : List Stmt} {ts us : TS} {t u : MS} (h : FSt X c Wx st ts t) (g : FSs X c Wx rest us u) : FSs X c Wx (st :: rest) (tSeq ts us) (mSeq t u) := (vss_cons h g).weak fun DV env h => by
  have h : (seqK u (t env)).po DV := h
  show (t env).po _
  cases hA : t env <;> rw [hA] at h <;> exact h
def killS (ks : List Nat) : SR → SR
  | .nx e => .nx (wipeE e ks)
  | .rt w e => .rt w e
  | .bk e => .bk (wipeE e ks)
  | .ct e => .ct (wipeE e ks)
  | .ex C fs e => .ex C fs e
  | .no => .no
@[simp] theorem killS_c1 (ks : List Nat) (e) : killS ks (.nx e) = .nx (wipeE e ks) := rfl
@[simp] theorem killS_c2 (ks : List Nat) (w e) : killS ks (.rt w e) = .rt w e := rfl
@[simp] theorem killS_c3 (ks : List Nat) (e) : killS ks (.bk e) = .bk (wipeE e ks) := rfl
@[simp] theorem killS_c4 (ks : List Nat) (e) : killS ks (.ct e) = .ct (wipeE e ks) := rfl
@[simp] theorem killS_c5 (ks : List Nat) (C fs e) : killS ks (.ex C fs e) = .ex C fs e := rfl
@[simp] theorem killS_c6 (ks : List Nat) : killS ks .no = .no := rfl
@[simp] def mKill (ks : List Nat) (m : MS) (e : Env) : SR := killS ks (m e)
theorem Rl.wipeN {f : Fm} {Hb H : Hp} {env : Env} {σ : L2.St} (R : Rl K c f Hb env σ H) : ∀ ks : List Nat, Rl K c f Hb (wipeE env ks) σ H
  | [] => R
  | k :: ks => (Rl.wipeN R ks).unset k
theorem sim_kill {ts : TS} {m : MS} {ks : List Nat} (h : SimS K c Wx ts (vS m)) : SimS K c Wx ts (vS (mKill ks m)) := by
  intro f Hb env σ H DV D R q k
  refine h f Hb env σ H { nx := fun e => DV.nx (wipeE e ks), rt := DV.rt, bk := fun e => DV.bk (wipeE e ks), ct := fun e => DV.ct (wipeE e ks), ex := DV.ex } D R ?_ ⟨fun e s H' Hb' a R' => k.nx _ _ _ _ a (R'.wipeN ks), k.rt, fun e s H' Hb' a R' => k.bk _ _ _ _ a (R'.wipeN ks), fun e s H' Hb' a R' => k.ct _ _ _ _ a (R'.wipeN ks), k.ex⟩
  have q : (killS ks (m env)).po DV := q
  show (m env).po _
  cases hA : m env <;> rw [hA] at q <;> exact q
theorem fst_kill {st : Stmt} {ts : TS} {m : MS} (ks : List Nat) (h : FSt X c Wx st ts m) : FSt X c Wx st ts (mKill ks m) := ⟨h.ps, sim_kill h.sim⟩
theorem fss_kill {st : List Stmt} {ts : TS} {m : MS} (ks : List Nat) (h : FSs X c Wx st ts m) : FSs X c Wx st ts (mKill ks m) := ⟨h.ps, sim_kill h.sim⟩
abbrev GM := D → Env → Option Env
abbrev GMs := List D → Env → Option Env
def poO (Q : Env → Prop) : Option Env → Prop
  | some e => Q e
  | none => False
@[simp] theorem poO_c1 (Q : Env → Prop) (e) : poO Q (some e) = Q e := rfl
@[simp] theorem poO_c2 (Q : Env → Prop) : poO Q none = False := rfl
def vGm (g : GM) : VG := fun d env Q => poO Q (g d env)
abbrev FG (X : Cx) (c : VC) (ss : List Nat) (tg : Expr) (g : TG) (m : GM) : Prop := VGt X c ss tg g (vGm m)
theorem VGt.weak {ss : List Nat} {e : Expr} {te : TG} {t t' : VG} (h : VGt X c ss e te t) (hw : ∀ d env Q, t' d env Q → t d env Q) : VGt X c ss e te t' :=
  ⟨h.pg, fun f Hb env σ H d v Q Q' R r q k => h.sim f Hb env σ H d v Q Q' R r (hw _ _ _ q) k⟩
theorem VGts.weak {ss : List Nat} {e : List Expr} {te : TGs} {t t' : VGs} (h : VGts X c ss e te t) (hw : ∀ d env Q, t' d env Q → t d env Q) : VGts X c ss e te t' :=
  ⟨h.pg, fun f Hb env σ H d v Q Q' R r q k => h.sim f Hb env σ H d v Q Q' R r (hw _ _ _ q) k⟩
@[simp] def gmName (i : Nat) (d : D) (e : Env) : Option Env := some (e.set i (some (.val d)))
theorem fg_name {x : Str} {pos : Pos} (i : Nat) (nd : X.N.Nodup) (hx : i ∉ c.fx := by (dsimp only; decide)) (hi : X.N[i]? = some x := by rfl) (hl : L2.Loc X.env.scope x := by first | exact Or.inl rfl | exact Or.inr rfl) (hf : X.fn x = true ∨ X.env.scope.names.lookup x = some .local := by first | exact .inl rfl | exact .inr rfl) : FG X c [i] (.Name x pos) (gName i) (gmName i) :=
  (vg_name i nd hi hl hf).weak fun d env Q h => ⟨hx, h⟩
def gmNil : GMs
  | [], e => some e
  | _ :: _, _ => none
@[simp] theorem gmNil_c1  (e) : gmNil [] e = some e := rfl
def gmC1 (u : GMs) (r : List D) : Option Env → Option Env
  | some e => u r e
  | none => none
@[simp] theorem gmC1_c1 (u : GMs) (r : List D) (e) : gmC1 u r (some e) = u r e := rfl
@[simp] theorem gmC1_c2 (u : GMs) (r : List D) : gmC1 u r none = none := rfl
def gmCons (g : GM) (u : GMs) : GMs
  | d :: r, e => gmC1 u r (g d e)
  | [], _ => none
@[simp] theorem gmCons_c1 (g : GM) (u : GMs) (d r e) : gmCons g u (d :: r) e = gmC1 u r (g d e) := rfl
def gmTup (n : Nat) (u : GMs) : GM
  | .tup ds, e => if ds.length = n then u ds e else none
  | _, _ => none
@[simp] theorem gmTup_c1 (n : Nat) (u : GMs) (ds e) : gmTup n u (.tup ds) e = if ds.length = n then u ds e else none := rfl
def gmS3 (j : Nat) (i : Int) (d : D) (e : Env) : Option (Option M) → Option Env
  | some (some (.own (.lst ds))) => (ixN ds.length i).map fun n => e.set j (some (.own (.lst (ds.set n d))))
  | _ => none
@[simp] theorem gmS3_c1 (j : Nat) (i : Int) (d : D) (e : Env) (ds) : gmS3 j i d e (some (some (.own (.lst ds)))) = (ixN ds.length i).map fun n => e.set j (some (.own (.lst (ds.set n d)))) := rfl
def gmS2 (j : Nat) (d : D) : R Env W → Option Env
  | .ok (.val (.int i)) e => gmS3 j i d e e[j]?
  | _ => none
@[simp] theorem gmS2_c1 (j : Nat) (d : D) (i e) : gmS2 j d (.ok (.val (.int i)) e) = gmS3 j i d e e[j]? := rfl
def gmS1 (i : ME) (d : D) : R Env W → Option Env
  | .ok (.cel j) e => gmS2 j d (i e)
  | _ => none
@[simp] theorem gmS1_c1 (i : ME) (d : D) (j e) : gmS1 i d (.ok (.cel j) e) = gmS2 j d (i e) := rfl
@[simp] def gmSub (o i : ME) : GM := fun d e => gmS1 i d (o e)
theorem fg_sub {o i : Expr} {to ti : TE} {mo mi : ME} {pos : Pos} (ho : FE X c W0 o to mo) (hi : FE X c W0 i ti mi)
    (ha : ∀ v, assign (.Subscript o i pos) X.env v = (do
      let ov ← holding [v] (eval o X.env)
      let iv ← holding [v, ov] (eval i X.env)
      standAt pos
      holding [v, ov, iv] (setItem ov iv v)
      release [v, ov, iv] []) := by intro _; rfl) : FG X c [] (.Subscript o i pos) (gSub to ti rSetL) (gmSub mo mi) := (vg_sub (Wx := W0) ho hi ha).weak fun d env Q q => by
  have q : poO Q (gmS1 mi d (mo env)) := q
  show (mo env).po _ _
  cases hA : mo env with
  | ex C fs s => rw [hA] at q; exact q
  | no => rw [hA] at q; exact q
  | ok w e =>
    rw [hA] at q
    cases w with
    | val d => exact q.elim
    | tmp oc => exact q.elim
    | cel j =>
      have q : poO Q (gmS2 j d (mi e)) := q
      show (mi e).po _ _
      cases hB : mi e with
      | ex C fs s => rw [hB] at q; exact q
      | no => rw [hB] at q; exact q
      | ok w2 e2 =>
        rw [hB] at q
        cases w2 with
        | tmp oc => exact q.elim
        | cel j => exact q.elim
        | val d2 =>
          cases d2 with
          | int i =>
            have q : poO Q (gmS3 j i d e2 e2[j]?) := q
            show match e2[j]? with | some (some (.own (.lst ds))) => _ | _ => False
            generalize e2[j]? = o2 at q
            rcases o2 with _ | _ | d' | ⟨⟩ | oc
            · exact q.elim
            · exact q.elim
            · exact q.elim
            · rename_i ds
              simp only [gmS3] at q
              cases h1 : ixN ds.length i with
              | none => rw [h1] at q; exact q.elim
              | some n => rw [h1] at q; exact ⟨n, h1, q⟩
            · exact q.elim
          | _ => exact q.elim
end
end
end VL
set_option Elab.async false
set_option linter.all false
set_option maxRecDepth 100000
set_option maxHeartbeats 4000000
namespace VL
noncomputable section
open PySem PySem.Spec PyProof.Rows L2
variable [CM]
section
variable {K : PySem.W.Frag} {c : VC} {Wx : WX} {X : Cx}
def set1 (i : Nat) : R Env D → SR
  | .ok d e => .nx (e.set i (some (.val d)))
  | .ex C fs s => .ex C fs s
  | .no => .no
@[simp] theorem set1_c1 (i : Nat) (d e) : set1 i (.ok d e) = .nx (e.set i (some (.val d))) := rfl
@[simp] theorem set1_c2 (i : Nat) (C fs s) : set1 i (.ex C fs s) = .ex C fs s := rfl
@[simp] theorem set1_c3 (i : Nat) : set1 i .no = .no := rfl
@[simp] def mSet (i : Nat) (m : ME) (e : Env) : SR := set1 i (bd fzM (m e))
theorem po_set1 {i : Nat} {m : ME} {env : Env} {DV : VEnds} (hx : i ∉ c.fx) (h : (mSet i m env).po DV) : vSet c i (vR m) DV env := by
  have h : (set1 i (bd fzM (m env))).po DV := h
  show (m env).po _ DV.ex
  cases hA : m env with
  | ex C fs s => rw [hA] at h; exact h
  | no => rw [hA] at h; exact h
  | ok w e =>
    rw [hA] at h
    have h : (set1 i (fzM w e)).po DV := h
    refine ⟨hx, po_fz (QX := DV.ex) ?_⟩
    cases hB : fzM w e with
    | ex C fs s => rw [hB] at h; exact h
    | no => rw [hB] at h; exact h
    | ok d e2 => rw [hB] at h; exact h
theorem fst_set {x : Str} {e : Expr} {te : TE} {m : ME} {pos pos' : Pos} (i : Nat) (nd : X.N.Nodup) (he : FE X c Wx e te m) (hx : i ∉ c.fx := by (dsimp only; decide)) (hi : X.N[i]? = some x := by rfl) (hl : L2.Loc X.env.scope x := by first | exact Or.inl rfl | exact Or.inr rfl) (hs : swapsWith e (some (.Name x pos')) pos.line X.env = pure false := by rfl) (hf : X.fn x = true ∨ X.env.scope.names.lookup x = some .local := by first | exact .inl rfl | exact .inr rfl) :
    FSt X c Wx (.Assign [.Name x pos'] e pos) (tAsg te (gName i)) (mSet i m) := (vst_set i nd he hi hl hs hf).weak fun DV env h => po_set1 hx h
def own1 (i : Nat) : R Env W → SR
  | .ok (.tmp oc) e => .nx (e.set i (some (.own oc)))
  | .ok (.val d) e => .nx (e.set i (some (.val d)))
  | .ex C fs s => .ex C fs s
  | _ => .no
@[simp] theorem own1_c1 (i : Nat) (oc e) : own1 i (.ok (.tmp oc) e) = .nx (e.set i (some (.own oc))) := rfl
@[simp] theorem own1_c2 (i : Nat) (d e) : own1 i (.ok (.val d) e) = .nx (e.set i (some (.val d))) := rfl
@[simp] theorem own1_c3 (i : Nat) (C fs s) : own1 i (.ex C fs s) = .ex C fs s := rfl
@[simp] def mOwn (i : Nat) (m : ME) (e : Env) : SR := own1 i (m e)
theorem po_own1 {i : Nat} {m : ME} {env : Env} {DV : VEnds} (hx : i ∉ c.fx) (h : (mOwn i m env).po DV) : vOwn c i (vR m) DV env := by
  have h : (own1 i (m env)).po DV := h
  show (m env).po _ DV.ex
  cases hA : m env with
  | ex C fs s => rw [hA] at h; exact h
  | no => rw [hA] at h; exact h
  | ok w e =>
    rw [hA] at h
    cases w with
    | val d => exact ⟨hx, h⟩
    | tmp oc => exact ⟨hx, h⟩
    | cel j => exact h.elim
theorem fst_own {x : Str} {e : Expr} {te : TE} {m : ME} {pos pos' : Pos} (i : Nat) (nd : X.N.Nodup) (he : FE X c Wx e te m) (hx : i ∉ c.fx := by (dsimp only; decide)) (hi : X.N[i]? = some x := by rfl) (hl : L2.Loc X.env.scope x := by first | exact Or.inl rfl | exact Or.inr rfl) (hs : swapsWith e (some (.Name x pos')) pos.line X.env = pure false := by rfl) (hf : X.fn x = true ∨ X.env.scope.names.lookup x = some .local := by first | exact .inl rfl | exact .inr rfl) :
    FSt X c Wx (.Assign [.Name x pos'] e pos) (tAsg te (gName i)) (mOwn i m) := (vst_own i nd he hi hl hs hf).weak fun DV env h => po_own1 hx h
def asg2 : Option Env → SR
  | some e => .nx e
  | none => .no
@[simp] theorem asg2_c1  (e) : asg2 (some e) = .nx e := rfl
@[simp] theorem asg2_c2  : asg2 none = .no := rfl
def asg1 (g : GM) : R Env D → SR
  | .ok d e => asg2 (g d e)
  | .ex C fs s => .ex C fs s
  | .no => .no
@[simp] theorem asg1_c1 (g : GM) (d e) : asg1 g (.ok d e) = asg2 (g d e) := rfl
@[simp] theorem asg1_c2 (g : GM) (C fs s) : asg1 g (.ex C fs s) = .ex C fs s := rfl
@[simp] theorem asg1_c3 (g : GM) : asg1 g .no = .no := rfl
@[simp] def mAsg (m : ME) (g : GM) (e : Env) : SR := asg1 g (bd fzM (m e))
theorem fst_asg {tg e : Expr} {te : TE} {m : ME} {g : TG} {vg : GM} {pos : Pos} {ss : List Nat} (he : FE X c Wx e te m) (hg : FG X c ss tg g vg) (hs : swapsWithSole [tg] e pos.line X.env = pure false := by rfl) (hw : swappedStores [tg] e X.env = pure none := by rfl)
    (h1 : (assignEach [tg] X.env).map (·.2) = [assign tg X.env] := by rfl) : FSt X c Wx (.Assign [tg] e pos) (tAsg te g) (mAsg m vg) := (vst_asg he hg hs hw h1).weak fun DV env h => by
  have h : (asg1 vg (bd fzM (m env))).po DV := h
  show (m env).po _ DV.ex
  cases hA : m env with
  | ex C fs s => rw [hA] at h; exact h
  | no => rw [hA] at h; exact h
  | ok w e =>
    rw [hA] at h
    have h : (asg1 vg (fzM w e)).po DV := h
    show fz w e fun d env2 => vGm vg d env2 DV.nx
    refine po_fz (QX := DV.ex) ?_
    cases hB : fzM w e with
    | ex C fs s => rw [hB] at h; exact h
    | no => rw [hB] at h; exact h
    | ok d e2 =>
      rw [hB] at h
      have h : (asg2 (vg d e2)).po DV := h
      show poO _ (vg d e2)
      cases hC : vg d e2 with
      | none => rw [hC] at h; exact h
      | some e3 => rw [hC] at h; exact h
def par1 (i j : Nat) : R Env (List D) → SR
  | .ok [a, b] e => .nx ((e.set i (some (.val a))).set j (some (.val b)))
  | .ex C fs s => .ex C fs s
  | _ => .no
@[simp] theorem par1_c1 (i j : Nat) (a b e) : par1 i j (.ok [a, b] e) = .nx ((e.set i (some (.val a))).set j (some (.val b))) := rfl
@[simp] theorem par1_c2 (i j : Nat) (C fs s) : par1 i j (.ex C fs s) = .ex C fs s := rfl
@[simp] def mPar (i j : Nat) (t : MA) (e : Env) : SR := par1 i j (bd fzsM (t e))
def exp1 : R Env W → SR
  | .ok _ e => .nx e
  | .ex C fs s => .ex C fs s
  | .no => .no
@[simp] theorem exp1_c1  (x1 e) : exp1 (.ok x1 e) = .nx e := rfl
@[simp] theorem exp1_c2  (C fs s) : exp1 (.ex C fs s) = .ex C fs s := rfl
@[simp] theorem exp1_c3  : exp1 .no = .no := rfl
@[simp] def mExpr (m : ME) (e : Env) : SR := exp1 (m e)
theorem fst_expr {e : Expr} {te : TE} {m : ME} {pos : Pos} (he : FE X c Wx e te m) (hs : swapsWith e none pos.line X.env = pure false := by rfl) : FSt X c Wx (.Expr e pos) (tDrop te) (mExpr m) := (vst_expr he hs).weak fun DV env h => by
  have h : (exp1 (m env)).po DV := h
  show (m env).po _ DV.ex
  cases hA : m env <;> rw [hA] at h <;> exact h
@[simp] def mBrk (e : Env) : SR := .bk e
@[simp] def mCnt (e : Env) : SR := .ct e
def ret2 (i : Nat) (e : Env) : Bool → Option (Option M) → SR
  | true, some (some (.own oc)) => .rt (.tmp oc) (e.set i none)
  | _, _ => .no
@[simp] theorem ret2_c1 (i : Nat) (e : Env) (oc) : ret2 i e true (some (some (.own oc))) = .rt (.tmp oc) (e.set i none) := rfl
def ret1 (fx : List Nat) : R Env W → SR
  | .ok (.val d) e => .rt (.val d) e
  | .ok (.tmp oc) e => .rt (.tmp oc) e
  | .ok (.cel i) e => ret2 i e (!fx.contains i) e[i]?
  | .ex C fs s => .ex C fs s
  | .no => .no
@[simp] theorem ret1_c1 (fx : List Nat) (d e) : ret1 fx (.ok (.val d) e) = .rt (.val d) e := rfl
@[simp] theorem ret1_c2 (fx : List Nat) (oc e) : ret1 fx (.ok (.tmp oc) e) = .rt (.tmp oc) e := rfl
@[simp] theorem ret1_c3 (fx : List Nat) (i e) : ret1 fx (.ok (.cel i) e) = ret2 i e (!fx.contains i) e[i]? := rfl
@[simp] theorem ret1_c4 (fx : List Nat) (C fs s) : ret1 fx (.ex C fs s) = .ex C fs s := rfl
@[simp] theorem ret1_c5 (fx : List Nat) : ret1 fx .no = .no := rfl
@[simp] def mRet (fx : List Nat) (m : ME) (e : Env) : SR := ret1 fx (m e)
theorem fst_ret {e : Expr} {te : TE} {m : ME} {pos : Pos} (he : FE X c Wx e te m) : FSt X c Wx (.Return (some e) pos) (tRet te) (mRet c.fx m) := (vst_ret he).weak fun DV env h => by
  have h : (ret1 c.fx (m env)).po DV := h
  show (m env).po _ DV.ex
  cases hA : m env with
  | ex C fs s => rw [hA] at h; exact h
  | no => rw [hA] at h; exact h
  | ok w e =>
    rw [hA] at h
    cases w with
    | val d => exact h
    | tmp d => exact h
    | cel i =>
      have h : (ret2 i e (!c.fx.contains i) e[i]?).po DV := h
      cases hx : c.fx.contains i with
      | true => rw [hx] at h; exact h.elim
      | false =>
        rw [hx] at h
        refine ⟨fun z => ?_, ?_⟩
        · rw [List.contains_eq_mem, decide_eq_false_iff_not] at hx; exact hx z
        · generalize e[i]? = o at h
          rcases o with _ | _ | d | oc
          · exact h.elim
          · exact h.elim
          · exact h.elim
          · exact h
@[simp] def mRetN (e : Env) : SR := .rt (.val .non) e
def ifS (a b : MS) : R Env Bool → SR
  | .ok true e => a e
  | .ok false e => b e
  | .ex C fs s => .ex C fs s
  | .no => .no
@[simp] theorem ifS_c1 (a b : MS) (e) : ifS a b (.ok true e) = a e := rfl
@[simp] theorem ifS_c2 (a b : MS) (e) : ifS a b (.ok false e) = b e := rfl
@[simp] theorem ifS_c3 (a b : MS) (C fs s) : ifS a b (.ex C fs s) = .ex C fs s := rfl
@[simp] theorem ifS_c4 (a b : MS) : ifS a b .no = .no := rfl
@[simp] def mIfS (t : MT) (a b : MS) (e : Env) : SR := ifS a b (t e)
theorem fst_if {t : Expr} {a b : List Stmt} {tt : TT} {ta tb : TS} {mt : MT} {ma mb : MS} {pos : Pos} (ht : FTe X c Wx t tt mt) (ha : FSs X c Wx a ta ma) (hb : FSs X c Wx b tb mb) : FSt X c Wx (.If t a b pos) (tIfS tt ta tb) (mIfS mt ma mb) := (vst_if ht ha hb).weak fun DV env h => by
  have h : (ifS ma mb (mt env)).po DV := h
  show (mt env).po _ DV.ex
  cases hA : mt env with
  | ex C fs s => rw [hA] at h; exact h
  | no => rw [hA] at h; exact h
  | ok k e => rw [hA] at h; cases k <;> exact h
def trn (rec : MS) : SR → SR
  | .nx e => rec e
  | .ct e => rec e
  | .bk e => .nx e
  | .rt w e => .rt w e
  | .ex C fs e => .ex C fs e
  | .no => .no
@[simp] theorem trn_c1 (rec : MS) (e) : trn rec (.nx e) = rec e := rfl
@[simp] theorem trn_c2 (rec : MS) (e) : trn rec (.ct e) = rec e := rfl
@[simp] theorem trn_c3 (rec : MS) (e) : trn rec (.bk e) = .nx e := rfl
@[simp] theorem trn_c4 (rec : MS) (w e) : trn rec (.rt w e) = .rt w e := rfl
@[simp] theorem trn_c5 (rec : MS) (C fs e) : trn rec (.ex C fs e) = .ex C fs e := rfl
@[simp] theorem trn_c6 (rec : MS) : trn rec .no = .no := rfl
def whK (rec : MS) (b : MS) : R Env Bool → SR
  | .ok true e => trn rec (b e)
  | .ok false e => .nx e
  | .ex C fs s => .ex C fs s
  | .no => .no
@[simp] theorem whK_c1 (rec : MS) (b : MS) (e) : whK rec b (.ok true e) = trn rec (b e) := rfl
@[simp] theorem whK_c2 (rec : MS) (b : MS) (e) : whK rec b (.ok false e) = .nx e := rfl
@[simp] theorem whK_c3 (rec : MS) (b : MS) (C fs s) : whK rec b (.ex C fs s) = .ex C fs s := rfl
@[simp] theorem whK_c4 (rec : MS) (b : MS) : whK rec b .no = .no := rfl
def whN (t : MT) (b : MS) : Nat → MS
  | 0, _ => .no
  | n + 1, e => whK (whN t b n) b (t e)
theorem whN_mono (t : MT) (b : MS) : ∀ (n : Nat) (e : Env), whN t b n e ≠ .no → whN t b (n + 1) e = whN t b n e
  | 0, e, h => absurd rfl h
  | n + 1, e, h => by
    have h : whK (whN t b n) b (t e) ≠ .no := h
    show whK (whN t b (n + 1)) b (t e) = whK (whN t b n) b (t e)
    cases hA : t e with
    | ex C fs s => rfl
    | no => rfl
    | ok k e1 =>
      rw [hA] at h
      cases k with
      | false => rfl
      | true =>
        have h : trn (whN t b n) (b e1) ≠ .no := h
        show trn (whN t b (n + 1)) (b e1) = trn (whN t b n) (b e1)
        cases hB : b e1 with
        | nx e2 => rw [hB] at h; exact whN_mono t b n e2 h
        | ct e2 => rw [hB] at h; exact whN_mono t b n e2 h
        | bk e2 => rfl
        | rt w e2 => rfl
        | ex C fs e2 => rfl
        | no => rfl
theorem whN_le (t : MT) (b : MS) {n : Nat} {e : Env} (h : whN t b n e ≠ .no) : ∀ m, n ≤ m → whN t b m e = whN t b n e := by
  intro m hm
  induction m with
  | zero => cases Nat.le_zero.mp hm; rfl
  | succ m ih =>
    by_cases z : n ≤ m
    · rw [whN_mono t b m e (by rw [ih z]; exact h)]; exact ih z
    · have : n = m + 1 := by omega
      subst this; rfl
noncomputable def mWhile (t : MT) (b : MS) (e : Env) : SR := open Classical in if h : ∃ n, whN t b n e ≠ .no then whN t b (Classical.choose h) e else .no
theorem while_of {t : MT} {b : MS} {e : Env} {n : Nat} {r : SR} (h : whN t b n e = r) (hr : r ≠ .no) : mWhile t b e = r := by
  subst h
  have hx : ∃ n, whN t b n e ≠ .no := ⟨n, hr⟩
  unfold mWhile
  rw [dif_pos hx]
  have h2 := Classical.choose_spec hx
  rcases Nat.le_total n (Classical.choose hx) with z | z
  · exact whN_le t b hr _ z
  · exact (whN_le t b h2 _ z).symm
theorem fst_while {t : Expr} {b : List Stmt} {tt : TT} {tb : TS} {mt : MT} {mb : MS} {pos : Pos} (hp : PassesOwn (model X.prog X.w) X.A X.env X.xe) (ht : FTe X c Wx t tt mt) (hb : FSs X c Wx b tb mb) : FSt X c Wx (.While t b [] pos) (tWhile tt tb) (mWhile mt mb) := (vst_while hp ht hb).weak fun DV env h => by
  have h : (mWhile mt mb env).po DV := h
  have hx : ∃ n, whN mt mb n env ≠ .no := by
    refine Classical.byContradiction fun z => ?_
    unfold mWhile at h
    rw [dif_neg z] at h
    exact h
  obtain ⟨n, hn⟩ := hx
  rw [while_of rfl hn] at h
  refine ⟨fun n e => (whN mt mb n e).po DV, ⟨n, h⟩, fun m e hm => ?_⟩
  cases m with
  | zero => exact hm.elim
  | succ m =>
    have hm : (whK (whN mt mb m) mb (mt e)).po DV := hm
    show (mt e).po _ DV.ex
    cases hA : mt e with
    | ex C fs s => rw [hA] at hm; exact hm
    | no => rw [hA] at hm; exact hm
    | ok k e1 =>
      rw [hA] at hm
      cases k with
      | false => exact hm
      | true =>
        have hm : (trn (whN mt mb m) (mb e1)).po DV := hm
        show (mb e1).po _
        cases hB : mb e1 with
        | nx e2 => rw [hB] at hm; exact ⟨m, Nat.lt_succ_self m, hm⟩
        | ct e2 => rw [hB] at hm; exact ⟨m, Nat.lt_succ_self m, hm⟩
        | bk e2 => rw [hB] at hm; exact hm
        | rt w e2 => rw [hB] at hm; exact hm
        | ex C fs e2 => rw [hB] at hm; exact hm
        | no => rw [hB] at hm; exact hm
abbrev FI (X : Cx) (c : VC) (Wx : WX) (tg iter : Expr) (wi : TI) (m : MI) : Prop := VIt X c Wx tg iter wi (vR m)
def trnG (b : MS) : Option Env → SR
  | some e => b e
  | none => .no
@[simp] theorem trnG_c1 (b : MS) (e) : trnG b (some e) = b e := rfl
@[simp] theorem trnG_c2 (b : MS) : trnG b none = .no := rfl
@[simp] def turnM (g : GM) (b : MS) (d : D) (e : Env) : SR := trnG b (g d e)
def loopM (g : GM) (b : MS) : List D → Env → SR
  | [], e => .nx e
  | d :: ds, e => trn (loopM g b ds) (turnM g b d e)
def for1 (g : GM) (b : MS) : R Env (List D) → SR
  | .ok ds e => loopM g b ds e
  | .ex C fs s => .ex C fs s
  | .no => .no
@[simp] theorem for1_c1 (g : GM) (b : MS) (ds e) : for1 g b (.ok ds e) = loopM g b ds e := rfl
@[simp] theorem for1_c2 (g : GM) (b : MS) (C fs s) : for1 g b (.ex C fs s) = .ex C fs s := rfl
@[simp] theorem for1_c3 (g : GM) (b : MS) : for1 g b .no = .no := rfl
@[simp] def mFor (i : MI) (g : GM) (b : MS) (e : Env) : SR := for1 g b (i e)
theorem po_loop {g : GM} {b : MS} {DV : VEnds} : ∀ {ds : List D} {e : Env}, (loopM g b ds e).po DV → loopF (vGm g) (vS b) DV ds e
  | [], e, h => h
  | d :: ds, e, h => by
    have h : (trn (loopM g b ds) (trnG b (g d e))).po DV := h
    show poO _ (g d e)
    cases hA : g d e with
    | none => rw [hA] at h; exact h
    | some e1 =>
      rw [hA] at h
      have h : (trn (loopM g b ds) (b e1)).po DV := h
      show (b e1).po _
      cases hB : b e1 with
      | nx e2 => rw [hB] at h; exact po_loop h
      | ct e2 => rw [hB] at h; exact po_loop h
      | bk e2 => rw [hB] at h; exact h
      | rt w e2 => rw [hB] at h; exact h
      | ex C fs e2 => rw [hB] at h; exact h
      | no => rw [hB] at h; exact h
theorem fst_for {tg iter : Expr} {b : List Stmt} {wi : TI} {g : TG} {tb : TS} {vi : MI} {vg : GM} {vb : MS} {pos : Pos} (hp : PassesOwn (model X.prog X.w) X.A X.env X.xe) {ss : List Nat} (hi : FI X c Wx tg iter wi vi) (hg : FG X c ss tg g vg) (hb : FSs X c Wx b tb vb) (hc : X.calm = true := by rfl)
    (hs : ∀ x, foldedSetIterable iter X.env x = pure x := by intro _; rfl) : FSt X c Wx (.For tg iter b [] pos) (tFor wi g tb) (mFor vi vg vb) := (vst_for hp hi hg hb hc hs).weak fun DV env h => by
  have h : (for1 vg vb (vi env)).po DV := h
  show (vi env).po _ DV.ex
  cases hA : vi env with
  | ex C fs s => rw [hA] at h; exact h
  | no => rw [hA] at h; exact h
  | ok ds e => rw [hA] at h; exact po_loop h
def seqD : D → Option (List D)
  | .lst ds => some ds
  | .tup ds => some ds
  | .str z => some (z.cps.toList.map fun n => .str ⟨#[n]⟩)
  | _ => none
@[simp] theorem seqD_c1  (ds) : seqD (.lst ds) = some ds := rfl
@[simp] theorem seqD_c2  (ds) : seqD (.tup ds) = some ds := rfl
@[simp] theorem seqD_c3  (z) : seqD (.str z) = some (z.cps.toList.map fun n => .str ⟨#[n]⟩) := rfl
def itR (e : Env) : Option (List D) → R Env (List D)
  | some ds => .ok ds e
  | none => .no
@[simp] theorem itR_c1 (e : Env) (ds) : itR e (some ds) = .ok ds e := rfl
@[simp] theorem itR_c2 (e : Env) : itR e none = .no := rfl
def itK (f : D → Option (List D)) : R Env D → R Env (List D)
  | .ok d e => itR e (f d)
  | .ex C fs s => .ex C fs s
  | .no => .no
@[simp] theorem itK_c1 (f : D → Option (List D)) (d e) : itK f (.ok d e) = itR e (f d) := rfl
@[simp] theorem itK_c2 (f : D → Option (List D)) (C fs s) : itK f (.ex C fs s) = .ex C fs s := rfl
@[simp] theorem itK_c3 (f : D → Option (List D)) : itK f .no = .no := rfl
@[simp] def mIt (m : ME) (e : Env) : R Env (List D) := itK seqD (bd fzM (m e))
def revD : D → Option (List D)
  | .lst ds => some ds.reverse
  | .tup ds => some ds.reverse
  | _ => none
@[simp] theorem revD_c1  (ds) : revD (.lst ds) = some ds.reverse := rfl
@[simp] theorem revD_c2  (ds) : revD (.tup ds) = some ds.reverse := rfl
@[simp] def mRev (m : ME) (e : Env) : R Env (List D) := itK revD (bd fzM (m e))
theorem po_it {f : D → Option (List D)} {w : W} {e : Env} {Q : List D → Env → Prop} {QX : VX} (h : (itK f (fzM w e)).po Q QX) : fz w e fun d e2 => ∃ ds, f d = some ds ∧ Q ds e2 := by
  refine po_fz (QX := QX) ?_
  cases hB : fzM w e with
  | ex C fs s => rw [hB] at h; exact h
  | no => rw [hB] at h; exact h
  | ok d e2 =>
    rw [hB] at h
    have h : (itR e2 (f d)).po Q QX := h
    show ∃ ds, f d = some ds ∧ Q ds e2
    cases hC : f d with
    | none => rw [hC] at h; exact h.elim
    | some ds => rw [hC] at h; exact ⟨ds, rfl, h⟩
theorem fz_mono {w : W} {e : Env} {k k' : D → Env → Prop} (h : fz w e k) (m : ∀ d e, k d e → k' d e) : fz w e k' := by
  cases w with
  | val d => exact m _ _ h
  | tmp oc => exact m _ _ h
  | cel i =>
    rw [fz_cel] at h ⊢
    generalize e[i]? = o at h
    rcases o with _ | _ | d | oc
    · exact h
    · exact h
    · exact m _ _ h
    · exact m _ _ h
theorem fi_seq {tg e : Expr} {te : TE} {m : ME} (h : FE X c Wx e te m) : FI X c Wx tg e (iSeq X.K te) (mIt m) := (vi_seq h).weak fun env Q QX h => by
  have h : (itK seqD (bd fzM (m env))).po Q QX := h
  show (m env).po _ QX
  cases hA : m env with
  | ex C fs s => rw [hA] at h; exact h
  | no => rw [hA] at h; exact h
  | ok w e =>
    rw [hA] at h
    show fz w e fun d env2 => seqItems d fun ds => Q ds env2
    refine fz_mono (po_it h) fun d e2 ⟨ds, h1, h2⟩ => ?_
    cases d <;> first
      | (cases h1; exact h2)
      | cases h1
noncomputable def rng1 (j : Int) : Option (List D) := cif (-(2 ^ 62) ≤ j ∧ j < 2 ^ 62) (some ((List.range j.toNat).map fun k => .int (k : Nat))) none
@[simp] theorem rng1_of {j : Int} (h : -4611686018427387904 ≤ j ∧ j < 4611686018427387904) : rng1 j = some ((List.range j.toNat).map fun k => .int (k : Nat)) := cif_pos h
@[simp] theorem rng1_nat {n : Nat} (h : n < 4611686018427387904) : rng1 (n : Int) = some ((List.range n).map fun k => .int (k : Nat)) := by
  rw [rng1_of (by omega)]; rfl
noncomputable def rng2 (i j : Int) : Option (List D) := cif (-(2 ^ 62) ≤ i ∧ i < 2 ^ 62 ∧ -(2 ^ 62) ≤ j ∧ j < 2 ^ 62) (some ((List.range (j - i).toNat).map fun k => .int (i + (k : Nat)))) none
@[simp] theorem rng2_of {i j : Int} (h : -4611686018427387904 ≤ i ∧ i < 4611686018427387904 ∧ -4611686018427387904 ≤ j ∧ j < 4611686018427387904) : rng2 i j = some ((List.range (j - i).toNat).map fun k => .int (i + (k : Nat))) := cif_pos h
noncomputable def rngK : R Env (List W) → R Env (List D)
  | .ok [.val (.int j)] e => itR e (rng1 j)
  | .ok [.val (.int i), .val (.int j)] e => itR e (rng2 i j)
  | .ex C fs s => .ex C fs s
  | _ => .no
@[simp] theorem rngK_c1  (j e) : rngK (.ok [.val (.int j)] e) = itR e (rng1 j) := rfl
@[simp] theorem rngK_c2  (i j e) : rngK (.ok [.val (.int i), .val (.int j)] e) = itR e (rng2 i j) := rfl
@[simp] theorem rngK_c3  (C fs s) : rngK (.ex C fs s) = .ex C fs s := rfl
@[simp] noncomputable def mRng (t : MA) (e : Env) : R Env (List D) := rngK (t e)
theorem fi_range1 {tg a : Expr} {ta : TE} {m : ME} {p pos : Pos} (hm : X.mg "range" = none) (ha : FE X c Wx a ta m) (hg : Gl X "range" := by rfl) (hs : starEach [a] X.env = [(false, eval a X.env)] := by rfl) : FI X c Wx tg (.Call (.Name "range" p) [a] [] pos) (iRng1 (tCons ta tNil)) (mRng (mCons m mNil)) := (vi_range1 hm (fa_cons ha fa_nil hs) hg hs).weak fun env Q QX h => by
  have h : (rngK (sq mNil (fun w ws => fzv w :: ws) (m env))).po Q QX := h
  show (sq mNil (fun w ws => fzv w :: ws) (m env)).po _ QX
  cases hA : m env with
  | ex C fs s => rw [hA] at h; exact h
  | no => rw [hA] at h; exact h
  | ok w e =>
    rw [hA] at h
    have h : (rngK (.ok [fzv w] e)).po Q QX := h
    show match [fzv w] with | [.val (.int j)] => _ | _ => False
    rcases hw : fzv w with d | i | oc
    · rw [hw] at h
      cases d with
      | int j =>
        have h : (itR e (rng1 j)).po Q QX := h
        unfold rng1 at h
        by_cases z : -(2 ^ 62) ≤ j ∧ j < 2 ^ 62
        · rw [cif_pos z] at h; exact ⟨z, h⟩
        · rw [cif_neg z] at h; exact h.elim
      | _ => exact h.elim
    · rw [hw] at h; exact h.elim
    · rw [hw] at h; exact h.elim
def elK (vs : List Nat) : R Env D → R Env (Option D)
  | .ok d e => .ok (some d) (wipeE e vs)
  | .ex C fs s => .ex C fs s
  | .no => .no
@[simp] theorem elK_c1 (vs : List Nat) (d e) : elK vs (.ok d e) = .ok (some d) (wipeE e vs) := rfl
@[simp] theorem elK_c2 (vs : List Nat) (C fs s) : elK vs (.ex C fs s) = .ex C fs s := rfl
@[simp] theorem elK_c3 (vs : List Nat) : elK vs .no = .no := rfl
def ifC (el : ME) (vs : List Nat) : R Env Bool → R Env (Option D)
  | .ok true e => elK vs (bd fzM (el e))
  | .ok false e => .ok none (wipeE e vs)
  | .ex C fs s => .ex C fs s
  | .no => .no
@[simp] theorem ifC_c1 (el : ME) (vs : List Nat) (e) : ifC el vs (.ok true e) = elK vs (bd fzM (el e)) := rfl
@[simp] theorem ifC_c2 (el : ME) (vs : List Nat) (e) : ifC el vs (.ok false e) = .ok none (wipeE e vs) := rfl
@[simp] theorem ifC_c3 (el : ME) (vs : List Nat) (C fs s) : ifC el vs (.ex C fs s) = .ex C fs s := rfl
@[simp] theorem ifC_c4 (el : ME) (vs : List Nat) : ifC el vs .no = .no := rfl
def turnC1 (t : MT) (el : ME) (vs : List Nat) : Option Env → R Env (Option D)
  | some e => ifC el vs (t e)
  | none => .no
@[simp] theorem turnC1_c1 (t : MT) (el : ME) (vs : List Nat) (e) : turnC1 t el vs (some e) = ifC el vs (t e) := rfl
@[simp] theorem turnC1_c2 (t : MT) (el : ME) (vs : List Nat) : turnC1 t el vs none = .no := rfl
@[simp] def turnC (g : GM) (t : MT) (el : ME) (vs : List Nat) (d : D) (e : Env) : R Env (Option D) := turnC1 t el vs (g d e)
def consO : Option D → List D → List D
  | some d, ds => d :: ds
  | none, ds => ds
@[simp] theorem consO_c1 (d : D) (ds : List D) : consO (some d) ds = d :: ds := rfl
@[simp] theorem consO_c2 (ds : List D) : consO none ds = ds := rfl
def compM (g : GM) (t : MT) (el : ME) (vs : List Nat) : List D → Env → R Env (List D)
  | [], e => .ok [] e
  | d :: ds, e => sq (compM g t el vs ds) consO (turnC g t el vs d e)
@[simp] def okE (fx : List Nat) : List Nat → Env → Bool
  | [], _ => true
  | v :: vs, e => !fx.contains v && (match e[v]? with
    | some (some (.own _)) => false
    | _ => true) && okE fx vs e
noncomputable def lc3 (e0 : Env) (vs : List Nat) : R Env (List D) → R Env W
  | .ok ds e => opR (restE e0 e vs) (lim ds.length (.tmp (.lst ds)))
  | _ => .no
@[simp] theorem lc3_c1 (e0 : Env) (vs : List Nat) (ds e) : lc3 e0 vs (.ok ds e) = opR (restE e0 e vs) (lim ds.length (.tmp (.lst ds))) := rfl
noncomputable def lc2 (e0 : Env) (vs : List Nat) (r : R Env (List D)) : Bool → R Env W
  | true => lc3 e0 vs r
  | false => .no
@[simp] theorem lc2_c1 (e0 : Env) (vs : List Nat) (r : R Env (List D)) : lc2 e0 vs r true = lc3 e0 vs r := rfl
@[simp] theorem lc2_c2 (e0 : Env) (vs : List Nat) (r : R Env (List D)) : lc2 e0 vs r false = .no := rfl
noncomputable def lc1 (fx : List Nat) (g : GM) (t : MT) (el : ME) (vs : List Nat) : R Env (List D) → R Env W
  | .ok ds e => lc2 e vs (compM g t el vs ds (wipeE e vs)) (okE fx vs e)
  | .ex C fs s => .ex C fs s
  | .no => .no
@[simp] theorem lc1_c1 (fx : List Nat) (g : GM) (t : MT) (el : ME) (vs : List Nat) (ds e) : lc1 fx g t el vs (.ok ds e) = lc2 e vs (compM g t el vs ds (wipeE e vs)) (okE fx vs e) := rfl
@[simp] theorem lc1_c2 (fx : List Nat) (g : GM) (t : MT) (el : ME) (vs : List Nat) (C fs s) : lc1 fx g t el vs (.ex C fs s) = .ex C fs s := rfl
@[simp] theorem lc1_c3 (fx : List Nat) (g : GM) (t : MT) (el : ME) (vs : List Nat) : lc1 fx g t el vs .no = .no := rfl
@[simp] noncomputable def mLc (fx : List Nat) (it : MI) (g : GM) (t : MT) (el : ME) (vs : List Nat) (e : Env) : R Env W := lc1 fx g t el vs (it e)
theorem okE_of {fx : List Nat} : ∀ {vs : List Nat} {e : Env}, okE fx vs e = true → ∀ v ∈ vs, v ∉ fx ∧ ∀ oc, e[v]? ≠ some (some (.own oc))
  | [], e, h, v, hv => by cases hv
  | x :: vs, e, h, v, hv => by
    simp only [okE, Bool.and_eq_true] at h
    rcases List.mem_cons.mp hv with rfl | hv
    · refine ⟨fun z => ?_, fun oc z => ?_⟩
      · have := h.1.1
        simp [z] at this
      · have := h.1.2
        rw [z] at this; cases this
    · exact okE_of h.2 v hv
theorem po_comp {g : GM} {t : MT} {el : ME} {vs : List Nat} {Q : List D → Env → Prop} : ∀ {ds : List D} {e : Env} {acc : List D} {QX : VX}, (compM g t el vs ds e).po (fun r e2 => acc.length + r.length ≤ sizeLine ∧ Q (acc ++ r) e2) noX → compF (vGm g) (vR t) (vR el) vs Q ds acc e
  | [], e, acc, QX, h => by
    have h : acc.length + 0 ≤ sizeLine ∧ Q (acc ++ []) e := h
    rw [List.append_nil] at h
    exact h.2
  | d :: ds, e, acc, QX, h => by
    have h : (sq (compM g t el vs ds) consO (turnC1 t el vs (g d e))).po (fun r e2 => acc.length + r.length ≤ sizeLine ∧ Q (acc ++ r) e2) noX := h
    show poO _ (g d e)
    cases hA : g d e with
    | none => rw [hA] at h; exact h
    | some e1 =>
      rw [hA] at h
      have h : (sq (compM g t el vs ds) consO (ifC el vs (t e1))).po (fun r e2 => acc.length + r.length ≤ sizeLine ∧ Q (acc ++ r) e2) noX := h
      show (t e1).po _ noX
      cases hB : t e1 with
      | ex C fs s => rw [hB] at h; exact h
      | no => rw [hB] at h; exact h
      | ok b e2 =>
        rw [hB] at h
        cases b with
        | false =>
          have h := po_mp (g := consO none) (r := compM g t el vs ds (wipeE e2 vs)) h
          exact po_comp (QX := noX) h
        | true =>
          have h : (sq (compM g t el vs ds) consO (elK vs (bd fzM (el e2)))).po (fun r e2 => acc.length + r.length ≤ sizeLine ∧ Q (acc ++ r) e2) noX := h
          show (el e2).po _ noX
          cases hC : el e2 with
          | ex C fs s => rw [hC] at h; exact h
          | no => rw [hC] at h; exact h
          | ok w e3 =>
            rw [hC] at h
            have h : (sq (compM g t el vs ds) consO (elK vs (fzM w e3))).po (fun r e2 => acc.length + r.length ≤ sizeLine ∧ Q (acc ++ r) e2) noX := h
            show fz w e3 fun d' env4 => acc.length < sizeLine ∧ compF (vGm g) (vR t) (vR el) vs Q ds (acc ++ [d']) (wipeE env4 vs)
            refine po_fz (QX := noX) ?_
            cases hD : fzM w e3 with
            | ex C fs s => rw [hD] at h; exact h
            | no => rw [hD] at h; exact h
            | ok d' e4 =>
              rw [hD] at h
              have h := po_mp (g := consO (some d')) (r := compM g t el vs ds (wipeE e4 vs)) h
              have key : ∀ r e2, (acc.length + (consO (some d') r).length ≤ sizeLine ∧ Q (acc ++ consO (some d') r) e2) → ((acc ++ [d']).length + r.length ≤ sizeLine ∧ Q ((acc ++ [d']) ++ r) e2) := fun r e2 ⟨h1, h2⟩ => by
                have h1 : acc.length + (d' :: r).length ≤ sizeLine := h1
                have h2 : Q (acc ++ (d' :: r)) e2 := h2
                simp only [List.length_cons, List.length_append, List.length_nil] at h1 ⊢
                exact ⟨by omega, by rw [List.append_assoc]; exact h2⟩
              refine ⟨?_, po_comp (QX := noX) (po_mono h key)⟩
              cases hE : compM g t el vs ds (wipeE e4 vs) with
              | ex C fs s => rw [hE] at h; exact False.elim h
              | no => rw [hE] at h; exact False.elim h
              | ok r e5 =>
                rw [hE] at h
                have h1 : acc.length + (d' :: r).length ≤ sizeLine := h.1
                simp only [List.length_cons] at h1
                omega
theorem po_lc {it : MI} {g : GM} {t : MT} {el : ME} {vs : List Nat} {env : Env} {Q : VQ} {QX : VX} (h : vR (mLc c.fx it g t el vs) env Q QX) : vLc c (vR it) (vGm g) (vR t) (vR el) vs env Q QX := by
  have h : (lc1 c.fx g t el vs (it env)).po Q QX := h
  show (it env).po _ QX
  cases hA : it env with
  | ex C fs s => rw [hA] at h; exact h
  | no => rw [hA] at h; exact h
  | ok ds e =>
    rw [hA] at h
    have h : (lc2 e vs (compM g t el vs ds (wipeE e vs)) (okE c.fx vs e)).po Q QX := h
    cases hK : okE c.fx vs e with
    | false => rw [hK] at h; exact h.elim
    | true =>
      rw [hK] at h
      have h : (lc3 e vs (compM g t el vs ds (wipeE e vs))).po Q QX := h
      refine ⟨okE_of hK, po_comp (QX := noX) ?_⟩
      cases hC : compM g t el vs ds (wipeE e vs) with
      | ex C fs s => rw [hC] at h; exact h.elim
      | no => rw [hC] at h; exact h.elim
      | ok r e2 =>
        rw [hC] at h
        have h : (opR (restE e e2 vs) (lim r.length (.tmp (.lst r)))).po Q QX := h
        cases h1 : lim r.length (W.tmp (.lst r)) with
        | none => rw [h1] at h; exact h.elim
        | some w =>
          rw [h1] at h
          obtain ⟨h2, rfl⟩ := lim_some h1
          exact ⟨by simpa using h2, h⟩
abbrev FTs (X : Cx) (c : VC) (Wx : WX) (ifs : List Expr) (tt : TT) (m : MT) : Prop := VTs X c Wx ifs tt (vR m)
@[simp] def mYes (e : Env) : R Env Bool := .ok true e
theorem fts_nil : FTs X c Wx [] tYes mYes := ⟨pts_nil, fun f Hb env σ H Q QX Q' R q px k => k _ _ _ _ (Same.refl _) R q⟩
abbrev FBlk (X : Cx) (c : VC) (scope : Scope) (own : List (Str × Nat)) (ss : List Nat) (tg elt : Expr) (ifs : List Expr) (g : TG) (mg : GM) (tt : TT) (mt : MT) (te : TE) (me : ME) : Prop := Blk X c scope own ss tg elt ifs g (vGm mg) tt (vR mt) te (vR me)
theorem fe_lc {vs : List Nat} {scope : Scope} {own : List (Str × Nat)} {ss : List Nat} {tg elt iter : Expr} {ifs : List Expr} {g : TG} {vg : GM} {tt : TT} {vt : MT} {te : TE} {ve : ME} {wi : TI} {vi : MI} {pos : Pos} (nd : X.N.Nodup) (hi : FI X c Wx tg iter wi vi) (B : FBlk X c scope own ss tg elt ifs g vg tt vt te ve) (hc : X.calm = true := by rfl) (hs : ∀ x, foldedSetIterable iter X.env x = pure x := by intro _; rfl) (hvs : own.map (·.2) = vs := by rfl) :
    FE X c Wx (.ListComp elt [⟨tg, iter, ifs, 0⟩] scope pos) (tLc wi g tt te (own.map (·.2))) (mLc c.fx vi vg vt ve vs) := by
  subst hvs
  exact (ve_lc nd hi B hc hs).weak fun env Q QX h => po_lc h
@[simp] def modeB (fx : List Nat) : List M → Nat → Bool
  | [], _ => true
  | .val _ :: ms, k => modeB fx ms (k + 1)
  | .own _ :: ms, k => fx.contains k && modeB fx ms (k + 1)
theorem modeB_of {fx : List Nat} : ∀ {ms : List M} {k : Nat}, modeB fx ms k = true → modeOk ms k fx
  | [], _, _ => trivial
  | .val _ :: ms, k, h => modeB_of (ms := ms) h
  | .own _ :: ms, k, h => by
    simp only [modeB, Bool.and_eq_true, List.contains_eq_mem, decide_eq_true_eq] at h
    exact ⟨h.1, modeB_of h.2⟩
def fn3 (w : W) : Option (List M) → R (List M) W
  | some os => .ok w os
  | none => .no
@[simp] theorem fn3_c1 (w : W) (os) : fn3 w (some os) = .ok w os := rfl
@[simp] theorem fn3_c2 (w : W) : fn3 w none = .no := rfl
def fn4 (C : Str) (fs : List (Str × D)) : Option (List M) → R (List M) W
  | some os => .ex C fs os
  | none => .no
@[simp] theorem fn4_c1 (C : Str) (fs : List (Str × D)) (os) : fn4 C fs (some os) = .ex C fs os := rfl
@[simp] theorem fn4_c2 (C : Str) (fs : List (Str × D)) : fn4 C fs none = .no := rfl
def fn2 (ms : List M) : SR → R (List M) W
  | .nx e => fn3 (.val .non) (outsOf ms 0 e)
  | .rt (.val d) e => fn3 (.val d) (outsOf ms 0 e)
  | .rt (.tmp oc) e => fn3 (.tmp oc) (outsOf ms 0 e)
  | .ex C fs e => fn4 C fs (outsOf ms 0 e)
  | _ => .no
@[simp] theorem fn2_c1 (ms : List M) (e) : fn2 ms (.nx e) = fn3 (.val .non) (outsOf ms 0 e) := rfl
@[simp] theorem fn2_c2 (ms : List M) (d e) : fn2 ms (.rt (.val d) e) = fn3 (.val d) (outsOf ms 0 e) := rfl
@[simp] theorem fn2_c3 (ms : List M) (oc e) : fn2 ms (.rt (.tmp oc) e) = fn3 (.tmp oc) (outsOf ms 0 e) := rfl
@[simp] theorem fn2_c4 (ms : List M) (C fs e) : fn2 ms (.ex C fs e) = fn4 C fs (outsOf ms 0 e) := rfl
def fn1 (r : SR) (ms : List M) : Bool → R (List M) W
  | true => fn2 ms r
  | false => .no
@[simp] theorem fn1_c1 (r : SR) (ms : List M) : fn1 r ms true = fn2 ms r := rfl
@[simp] theorem fn1_c2 (r : SR) (ms : List M) : fn1 r ms false = .no := rfl
@[simp] def fnM (np n : Nat) (fx : List Nat) (b : MS) : FN := fun ms => fn1 (b (start0 n ms)) ms (ms.length == np && modeB fx ms 0)
end
section
variable {P : Program} {w : World} {K : PySem.W.Frag} {mg : Str → Option Value} {base : Heap}
theorem fn1_po {r : SR} {ms : List M} {A : W → List M → Prop} {B : Str → List (Str × D) → List M → Prop} (h : match fn1 r ms true with | .ok w outs => A w outs | .ex C fs outs => B C fs outs | .no => False) : r.po (endsOf ms A B) := by
  cases r with
  | nx e =>
    dsimp only [fn1, fn2] at h
    cases ho : outsOf ms 0 e with
    | none => rw [ho] at h; exact h.elim
    | some os => rw [ho] at h; exact ⟨os, ho, h⟩
  | rt w e =>
    cases w with
    | val d =>
      dsimp only [fn1, fn2] at h
      cases ho : outsOf ms 0 e with
      | none => rw [ho] at h; exact h.elim
      | some os => rw [ho] at h; exact ⟨os, ho, h⟩
    | tmp d =>
      dsimp only [fn1, fn2] at h
      cases ho : outsOf ms 0 e with
      | none => rw [ho] at h; exact h.elim
      | some os => rw [ho] at h; exact ⟨os, ho, h⟩
    | cel i => exact h.elim
  | ex C fs e =>
    dsimp only [fn1, fn2] at h
    cases ho : outsOf ms 0 e with
    | none => rw [ho] at h; exact h.elim
    | some os => rw [ho] at h; exact ⟨os, ho, h⟩
  | bk e => exact h.elim
  | ct e => exact h.elim
  | no => exact h.elim
theorem fl_fn {x : Str} {st : Stmt} {f : Addr} {fd : FuncData} {N ps : List Str} {k : Nat} {T : List Addr} {fx : List Nat} {F : FN} (np n : Nat) (m : MS) (hF : F = fnM np n fx m) (FB : FunB K mg x st ps f fd) (S : FnScope N ps (defScope st)) (hnp : ps.length = np) (hn : N.length = n)
    (hfx : ∀ i ∈ fx, i < ps.length)
    (hbody : ∀ (cdv : Value) (A : Around) (outer : List PySem.Env) (s : Shared) (H : Hp) (E : XK), Room k (A.deeper (envOfC x (defScope st) s.heap.objs.size f cdv)) →
      ∃ ts, FSs (cxOf (L2N.CX P w) P w K mg base N x (defScope st) f cdv A outer s H E) ⟨T, fx, []⟩ (fun cls d _ H => E cls d H) (defBody st) ts m) : Callee P w K mg base T x (k + 1) ps (spF F) f fd := by
  subst hF hnp hn
  have ok : ∀ ms A B, spF (fnM ps.length N.length fx m) ms A B → (ms.length == ps.length && modeB fx ms 0) = true := fun ms A B h => by
    unfold spF at h
    simp only [fnM] at h
    cases hb : (ms.length == ps.length && modeB fx ms 0) with
    | true => rfl
    | false => rw [hb] at h; exact h.elim
  refine vl_fn FB S hfx (fun ms A B h => ?_) hbody (fun ms A B h => ?_)
  · have h1 := ok ms A B h
    simp only [Bool.and_eq_true, beq_iff_eq] at h1
    exact hl0 h1.1 (modeB_of h1.2)
  · have h1 := ok ms A B h
    unfold spF at h
    simp only [fnM] at h
    rw [h1] at h
    exact fn1_po h
end
end
end VL
set_option Elab.async false
set_option linter.all false
set_option maxRecDepth 100000
set_option maxHeartbeats 4000000
namespace VL
open PySem PySem.Spec PyProof.Rows L2
variable [CM]
theorem loop_cons {g : GM} {b : MS} {d : D} {ds : List D} {e : Env} : loopM g b (d :: ds) e = trn (loopM g b ds) (turnM g b d e) := rfl
theorem loop_inv {g : GM} {b : MS} (I : List D → Env → Prop) (h : ∀ d ds e, I (d :: ds) e → ∃ e', (turnM g b d e = .nx e' ∨ turnM g b d e = .ct e') ∧ I ds e') : ∀ ds e, I ds e → ∃ e', loopM g b ds e = .nx e' ∧ I [] e'
  | [], e, h0 => ⟨e, rfl, h0⟩
  | d :: ds, e, h0 => by
    obtain ⟨e', h1, h2⟩ := h d ds e h0
    obtain ⟨e2, h3, h4⟩ := loop_inv I h ds e' h2
    refine ⟨e2, ?_, h4⟩
    rw [loop_cons]
    rcases h1 with h1 | h1 <;> rw [h1] <;> exact h3
theorem loop_at {g : GM} {b : MS} {ds : List D} {e : Env} {r : SR} (hr : loopM g b ds e = r) (I : List D → Env → Prop) (h0 : I ds e) (h : ∀ d ds e r, I (d :: ds) e → turnM g b d e = r → ∃ e', (r = .nx e' ∨ r = .ct e') ∧ I ds e') : ∃ e', r = .nx e' ∧ I [] e' := by
  obtain ⟨e', h1, h2⟩ := loop_inv I (fun d ds e hI => h d ds e _ hI rfl) ds e h0
  exact ⟨e', by rw [← hr, h1], h2⟩
theorem loop_ix {g : GM} {b : MS} {ds : List D} (I : Nat → Env → Prop) (h : ∀ i d e, ds[i]? = some d → I i e → ∃ e', (turnM g b d e = .nx e' ∨ turnM g b d e = .ct e') ∧ I (i + 1) e') (e : Env) (h0 : I 0 e) : ∃ e', loopM g b ds e = .nx e' ∧ I ds.length e' := by
  obtain ⟨e', h1, i, hi, he, h2⟩ := loop_inv (g := g) (b := b) (fun r e => ∃ i, i ≤ ds.length ∧ r = ds.drop i ∧ I i e) (fun d r e ⟨i, hi, er, hI⟩ => by
    have hlt : i < ds.length := by
      refine Nat.lt_of_le_of_ne hi fun z => ?_
      rw [z, List.drop_length] at er; cases er
    rw [List.drop_eq_getElem_cons hlt] at er
    cases er
    obtain ⟨e', h1, h2⟩ := h i _ e (List.getElem?_eq_getElem hlt) hI
    exact ⟨e', h1, i + 1, hlt, rfl, h2⟩) ds e ⟨0, Nat.zero_le _, rfl, h0⟩
  have : i = ds.length := by
    have := congrArg List.length he
    simp at this; omega
  subst this
  exact ⟨e', h1, h2⟩
theorem loop_search {ι : Type} {g : GM} {b : MS} {e e' : Env} {w : W} (en : ι → D) (p : ι → Bool) : ∀ xs : List ι, (∀ x ∈ xs, turnM g b (en x) e = if p x then .rt w e' else .nx e) → loopM g b (xs.map en) e = if xs.any p then .rt w e' else .nx e
  | [], _ => rfl
  | x :: xs, h => by
    rw [List.map_cons, loop_cons, h x (List.mem_cons_self ..), List.any_cons]
    have ih := loop_search en p xs fun y hy => h y (List.mem_cons_of_mem _ hy)
    cases hp : p x with
    | true => simp
    | false => simp; simpa using ih
theorem while_step {t : MT} {b : MS} {e e1 e2 : Env} (h1 : t e = .ok true e1) (h2 : b e1 = .nx e2) (h3 : mWhile t b e2 ≠ .no) : mWhile t b e = mWhile t b e2 := by
  have hx : ∃ n, whN t b n e2 ≠ .no := by
    refine Classical.byContradiction fun z => h3 ?_
    unfold mWhile
    rw [dif_neg z]
  obtain ⟨n, hn⟩ := hx
  rw [while_of (n := n) (e := e2) rfl hn]
  refine while_of (n := n + 1) ?_ hn
  show whK _ b (t e) = _
  rw [h1]
  show trn _ (b e1) = _
  rw [h2]
  rfl
theorem while_end {t : MT} {b : MS} {e e1 : Env} (h1 : t e = .ok false e1) : mWhile t b e = .nx e1 := by
  refine while_of (n := 1) ?_ (by simp)
  show whK _ b (t e) = _
  rw [h1]
  rfl
theorem comp_cons {g : GM} {t : MT} {el : ME} {vs : List Nat} {d : D} {ds : List D} {e : Env} : compM g t el vs (d :: ds) e = sq (compM g t el vs ds) consO (turnC g t el vs d e) := rfl
theorem comp_map {ι : Type} {g : GM} {t : MT} {el : ME} {vs : List Nat} {e : Env} (en : ι → D) (f : ι → D) : ∀ xs : List ι, (∀ x ∈ xs, turnC g t el vs (en x) e = .ok (some (f x)) e) → compM g t el vs (xs.map en) e = .ok (xs.map f) e
  | [], _ => rfl
  | x :: xs, h => by
    rw [List.map_cons, comp_cons, h x (List.mem_cons_self ..)]
    show mp (consO (some (f x))) (compM g t el vs (xs.map en) e) = _
    rw [comp_map en f xs fun y hy => h y (List.mem_cons_of_mem _ hy)]
    rfl
def tx (l : List Nat) : Str := ⟨l.toArray⟩
theorem tx_of (x : Str) : x = tx x.cps.toList := (SX.S_tl x).symm
@[simp] theorem tx_len (a : List Nat) : (tx a).length = a.length := SX.S_len a
@[simp] theorem tx_list (a : List Nat) : (tx a).cps.toList = a := by simp [tx]
@[simp] theorem tx_cat (a b : List Nat) : tx a ++ tx b = tx (a ++ b) := SX.S_cat a b
@[simp] theorem tx_eq (a b : List Nat) : (tx a = tx b) = (a = b) := propext ⟨SX.S_inj, fun h => by rw [h]⟩
@[simp] theorem tx_one (n : Nat) : (⟨#[n]⟩ : Str) = tx [n] := rfl
theorem tx_beq (a b : List Nat) : (tx a == tx b) = decide (a = b) := SX.S_beq_eq
@[simp] theorem cutS_to (a : List Nat) (n : Nat) : cutS (tx a) none (some (n : Int)) = tx (a.take n) := by rw [C8.cutS_slice]; exact SX.slice_to (Int.natCast_nonneg n)
@[simp] theorem cutS_from (a : List Nat) (n : Nat) : cutS (tx a) (some (n : Int)) none = tx (a.drop n) := by rw [C8.cutS_slice]; exact SX.slice_from (Int.natCast_nonneg n)
abbrev dT (l : List Nat) : D := .str (tx l)
@[simp] theorem strsOf_mapf {α : Type} (f : α → Str) : ∀ l : List α, strsOf (l.map fun x => D.str (f x)) = some (l.map f)
  | [] => rfl
  | x :: l => by simp [strsOf_mapf f l]
@[simp] theorem intsOf_mapf {α : Type} (f : α → Int) : ∀ l : List α, intsOf (l.map fun x => D.int (f x)) = some (l.map f)
  | [] => rfl
  | x :: l => by simp [intsOf_mapf f l]
@[simp] theorem blsOf_mapf {α : Type} (f : α → Bool) : ∀ l : List α, blsOf (l.map fun x => D.bl (f x)) = some (l.map f)
  | [] => rfl
  | x :: l => by simp [blsOf_mapf f l]
@[simp] theorem nlt1 (a n : Nat) : ((a : Int) < (no_index (OfNat.ofNat n) : Int)) = (a < OfNat.ofNat n) := propext Int.ofNat_lt
@[simp] theorem nlt2 (a n : Nat) : ((no_index (OfNat.ofNat n) : Int) < (a : Int)) = (OfNat.ofNat n < a) := propext Int.ofNat_lt
@[simp] theorem nle1 (a n : Nat) : ((a : Int) ≤ (no_index (OfNat.ofNat n) : Int)) = (a ≤ OfNat.ofNat n) := propext Int.ofNat_le
@[simp] theorem nle2 (a n : Nat) : ((no_index (OfNat.ofNat n) : Int) ≤ (a : Int)) = (OfNat.ofNat n ≤ a) := propext Int.ofNat_le
@[simp] theorem neq1 (a n : Nat) : ((a : Int) = (no_index (OfNat.ofNat n) : Int)) = (a = OfNat.ofNat n) := propext Int.ofNat_inj
@[simp] theorem neq2 (a n : Nat) : ((no_index (OfNat.ofNat n) : Int) = (a : Int)) = (OfNat.ofNat n = a) := propext Int.ofNat_inj
theorem mulOk_L {i j : Int} (h : -18446744073709551616 < i ∧ i < 18446744073709551616) : MulOk i j := .inl (.inl h)
theorem mulOk_R {i j : Int} (h : -18446744073709551616 < j ∧ j < 18446744073709551616) : MulOk i j := .inl (.inr h)
@[simp] theorem mulI_l {i j : Int} (h : -18446744073709551616 < i ∧ i < 18446744073709551616) : mulI i j = some (.val (.int (i * j))) := chk_of (mulOk_L h)
@[simp] theorem mulI_r {i j : Int} (h : -18446744073709551616 < j ∧ j < 18446744073709551616) : mulI i j = some (.val (.int (i * j))) := chk_of (mulOk_R h)
@[simp] theorem divI_s {i j : Int} (h : 0 < j ∧ j < 1000000000) : divI i j = some (.val (.int (i.fdiv j))) := chk_of (.inr ⟨by omega, by omega⟩)
end VL
set_option Elab.async false
set_option linter.all false
set_option maxRecDepth 100000
set_option maxHeartbeats 4000000
namespace GX
open PySem PySem.Spec PyProof.Rows L2 GxR GenW
abbrev gcx (X : Cx) (s : Shared) (H : Hp) (cenv : Env) (fp : List Addr) (A : Around) : Cx :=
  { X with s_0 := s, H_0 := H, env := cenv, A := A, outer := X.stack, stack := cenv :: X.stack, ex := fp, fn := fun _ => false, pn := [], xe := fun _ _ => False }
abbrev gA (A : Around) (cenv : Env) : Around := (A.in1.in1).deeper cenv
theorem over_loop (A : Around) {elt tg iter : Expr} {scope : Scope} {pos : Pos} {it acc : Value} {cenv : Env} : A.over (.compLoop (.GeneratorExp elt [⟨tg, iter, [], 0⟩] scope pos) 0 it acc cenv) [] = A.deeper cenv := by
  first
    | rfl
    | (obtain ⟨hd, d, fr, gs, u⟩ := A; simp [Around.over, Around.deeper, marksOver, frameCount, unitsOf, envsOf, guardsOf, pushEnvs, pushGuards, Code.envs, Code.env?, Code.isFrame, Code.guards, Code.isGuard, Code.weight, Code.frames, Code.isCreation, Code.isCaller, Code.cUnits])
section
variable {X : Cx}
def Yp (G : Cx) (pins : List (Addr × Obj)) (isAll : Bool) (Q : VK) : Protocol := fun n s₀ v s kap =>
  ∃ (b : Bool) (σ' : L2.St) (H' : Hp), v = .bool b ∧ Inv G pins σ' H' s ∧ (b ≠ isAll → Q (.bl (!isAll)) H') ∧ (b = isAll → ∀ s'' : Shared, s''.heap = s.heap → s''.os = s.os → AllBare s''.gens → kap (.send .none) s'')
def Fp (G : Cx) (pins : List (Addr × Obj)) (isAll : Bool) (Q : VK) : Nat → Shared → Shared → Prop := fun n s₀ s => ∃ (σ' : L2.St) (H' : Hp), Inv G pins σ' H' s ∧ Q (.bl isAll) H'
def Rp (G : Cx) (pins : List (Addr × Obj)) (isAll : Bool) (Q : VK) : GenEnd := fun n s₀ r s₁ => ((r = .ok (.ret .none) ∨ r = .ok .next) ∧ Fp G pins isAll Q n s₀ s₁) ∨ ∃ e, r = .error e ∧ False
theorem Inv.heapOnly {pins : List (Addr × Obj)} {σ : L2.St} {H : Hp} {s s' : Shared} (I : Inv X pins σ H s) (hh : s'.heap = s.heap) (ho : s'.os = s.os) (hg : AllBare s'.gens) : Inv X pins σ H s' := by
  have J := I.call' (s' := s') (ch := []) ho (by rw [hh]; exact Un.refl) (by rw [hh]; exact I.hok) hg (fun b hb => nomatch hb)
  exact J
def Turns (isAll : Bool) (J : It) (g : TG) (te : TE) (τ : L2.St) (vs : List Nat) (Q : VK) (W : Nat → Nat → Hp → Prop) : Prop := ∀ i m H, W i m H →
  (J.stop i H ∧ Q (.bl isAll) H) ∨ (J.go i H ∧ ∀ x H', J.yld i H x H' → g x τ H' fun σ2 H2 => wipe σ2 vs = τ ∧ te σ2 H2 fun y H3 => ∃ b, y = .bl b ∧ if b = isAll then ∃ m', m' < m ∧ W (i + 1) m' H3 else Q (.bl (!isAll)) H3)
theorem seg_gen {G : Cx} {B : Around} {pins : List (Addr × Obj)} {isAll : Bool} {elt tg iter : Expr} {scope : Scope} {pos : Pos} {it : Addr} {fp : List Addr} {tn : Nat → Heap → Prop} {J : It} {τ : L2.St} {vs : List Nat} {g : TG} {te : TE} {Q : VK} {W : Nat → Nat → Hp → Prop}
    (hA : G.A = B.deeper G.env) (hxe : G.xe = fun _ _ => False) (hex : ∀ b ∈ fp, b ∈ G.ex) (hpins : ∀ p ∈ G.pn ++ pins, p.1 ∉ fp) (hw : wipe τ vs = τ) (hc : G.calm = true) (hco : G.env.scope.isCoroutine = false) (T : Turn G.prog G.w G.K tg J fp it tn)
    (pg : PG G tg g) (pe : PE G elt te) (turn : Turns isAll J g te τ vs Q W) :
    ∀ (n m i : Nat) (s₀ s : Shared) (H : Hp), m < n → Inv G pins τ H s → tn i s.heap → (∀ b ∈ fp, H b = none) → W i m H →
      Seg (model G.prog G.w) B (Rp G pins isAll Q) (Yp G pins isAll Q) n s₀ (.compLoop (.GeneratorExp elt [⟨tg, iter, [], 0⟩] scope pos) 0 (.ref it) .none G.env)
        ((model G.prog G.w).den (.compLoop (.GeneratorExp elt [⟨tg, iter, [], 0⟩] scope pos) 0 (.ref it) .none G.env)) [] s := by
  have stat : ∀ {pl : List (Addr × Obj)} {σ' : L2.St} {H' : Hp} {s' : Shared}, (∀ p ∈ G.pn ++ pl, p.1 ∉ fp) → Inv G pl σ' H' s' → (∀ b ∈ fp, H' b = none) → ∀ b ∈ fp, FpOk G pl H' b := fun {pl σ' H' s'} hp I' hn b hb =>
    ⟨hn b hb, (I'.ok.exf b (hex b hb)).1, I'.ok.exfs b (hex b hb), .inl (hex b hb), fun x c e => (I'.ok.exf b (hex b hb)).2 x c e, fun p hp' z => hp p hp' (by rw [z]; exact hb)⟩
  intro n
  induction n with
  | zero => intro m i s₀ s H h; omega
  | succ n ih =>
    intro m i s₀ s H hmn I st hn w
    show Seg _ B _ _ _ s₀ _ ((compTurn (.GeneratorExp elt [⟨tg, iter, [], 0⟩] scope pos) 0 (.ref it) .none G.env).onRaise (leaving G.env)) [] s
    rw [compTurn_gen, Sem.onRaise_eq_wrap]
    refine seg_bind_wrap (wpAny_standAt ?_)
    rcases turn i m H w with ⟨stop, qq⟩ | ⟨go, step⟩
    · refine seg_bind_wrap ?_
      rw [over_loop, ← hA]
      have td := T.done G rfl rfl rfl hc i pins s _ H (fun _ _ => False) I (stat hpins I hn) st stop
      refine thnF td fun r s6 ⟨hr, I6⟩ => ?_
      subst hr
      exact seg_end (.ok .next) (.inl ⟨.inr rfl, _, H, I6, qq⟩)
    · refine seg_bind_wrap ?_
      rw [over_loop, ← hA]
      have ti := T.item G rfl rfl rfl hc i pins s _ H (fun _ _ => False) I (stat hpins I hn) st go
      refine thnF ti fun r s6 ⟨u, hr, h6⟩ => ?_
      subst hr
      refine seg_bind_wrap ?_
      rw [over_loop, ← hA]
      refine thnF h6 fun _ s7 ⟨x, H7, I7, r7, y7, st7, n7⟩ => ?_
      have I7' := I7.pinned (stat hpins I7 n7) (T.obj _ _ st7)
      refine seg_bind_wrap ?_
      rw [over_loop, ← hA]
      have pgr := pg.run _ s7 _ H7 x u _ I7' r7 (step x H7 y7)
      rw [hxe] at pgr
      refine thnF pgr fun _ s8 ⟨σ8, H8, I8, hw8, q8⟩ => ?_
      refine seg_bind_wrap (wpAny_tests_nil ?_)
      simp only [if_true]
      have hy : ∀ v, yieldOut G.env v = yieldValue v := fun v => by simp only [yieldOut, hco, Bool.false_eq_true, if_false]
      simp only [hy]
      rw [Sem.bind_eq_wrap', Sem.bind_eq_wrap', Sem.wrap_wrap, Sem.wrap_wrap]
      refine seg_wrap ?_
      rw [over_loop, ← hA]
      have per := pe.run _ s8 σ8 H8 _ I8 q8
      rw [hxe] at per
      refine thnF per fun z s10 ⟨yv, H10, I10, r10, b, hb, q10⟩ => ?_
      subst hb
      cases (show z = Value.bool b from r10)
      have pin' : ∀ b ∈ fp, ∀ o, s7.heap.get? b = some o → s10.heap.get? b = some o ∧ H10 b = none := fun b hb o e =>
        let z := I10.pin (b, o) (List.mem_append_right _ (List.mem_append_right _ (mem_pinsAt hb e)))
        ⟨z.1, z.2.1⟩
      have hl : τ.length = σ8.length := by rw [← hw8, wipe_length]
      have I11 : Inv G pins τ H10 s10 := (I10.unpinned (pins := pins)).weak hl fun j v e => by
        rw [← hw8] at e
        exact (wipe_some e).1
      refine seg_at (seg_yield rfl rfl rfl ⟨b, τ, H10, rfl, I11, fun hne => ?_, fun he s'' hh ho hg => ?_⟩)
      · rw [if_neg hne] at q10; exact q10
      · rw [if_pos he] at q10
        obtain ⟨m', hm', w'⟩ := q10
        refine seg_again rfl (ih m' (i + 1) s'' s'' H10 (by omega) (Inv.heapOnly I11 hh ho hg) ?_ ?_ w')
        · rw [hh]
          exact T.keep _ _ _ st7 fun b hb o e => (pin' b hb o e).1
        · intro b hb
          obtain ⟨o, e, _⟩ := T.obj _ _ st7 b hb
          exact (pin' b hb o e).2
end
end GX
set_option Elab.async false
set_option linter.all false
set_option maxRecDepth 100000
set_option maxHeartbeats 4000000
namespace GX
open PySem PySem.Spec PyProof.Rows L2 GxR GenW
section
variable {X G : Cx} {pins : List (Addr × Obj)} {Q : VK}
theorem goes_start {B : Around} {isAll : Bool} {elt tg iter : Expr} {scope : Scope} {pos : Pos} {it : Addr} {fp : List Addr} {tn : Nat → Heap → Prop} {J : It} {n : Nat} {s₀ s : Shared}
    (hcalm : B.handled = none) (T : Turn G.prog G.w G.K tg J fp it tn) (st : tn 0 s.heap)
    (loop : Seg (model G.prog G.w) B (Rp G pins isAll Q) (Yp G pins isAll Q) n s₀ (.compLoop (.GeneratorExp elt [⟨tg, iter, [], 0⟩] scope pos) 0 (.ref it) .none G.env)
        ((model G.prog G.w).den (.compLoop (.GeneratorExp elt [⟨tg, iter, [], 0⟩] scope pos) 0 (.ref it) .none G.env)) [] s) :
    Seg (model G.prog G.w) B (Rp G pins isAll Q) (Yp G pins isAll Q) n s₀ (.compStart (.GeneratorExp elt [⟨tg, iter, [], 0⟩] scope pos) 0 (.ref it) .none G.env)
        ((model G.prog G.w).den (.compStart (.GeneratorExp elt [⟨tg, iter, [], 0⟩] scope pos) 0 (.ref it) .none G.env)) [] s := by
  show Seg _ B _ _ _ s₀ _ ((compStart (.GeneratorExp elt [⟨tg, iter, [], 0⟩] scope pos) 0 (.ref it) .none G.env).onRaise (leaving G.env)) [] s
  unfold compStart
  rw [Sem.onRaise_eq_wrap]
  show Seg _ B _ _ _ s₀ _ ((ask >>= _).wrap _ _ _ _) [] s
  refine seg_bind_wrap (wpAny_askSetting ?_)
  split
  · exact seg_again rfl loop
  · first
      | exact seg_bind_wrap (wpAny_rule (seg_bind_wrap (wpAny_standAt (seg_bind_wrap (T.self _ 0 s _ _ st (seg_again rfl loop))))))
      | (refine seg_bind_wrap (wpAny_rule ?_); show Seg _ B _ _ _ s₀ _ ((standAt iter.pos >>= _).wrap _ _ _ _) [] s; exact seg_bind_wrap (wpAny_standAt (seg_bind_wrap (T.self _ 0 s _ _ st (seg_again rfl loop)))))
theorem drive_all {A : Around} {Rr : Result → Shared → Prop} {a : Addr} {g : Nat} {og : Obj} (hh : A.handled = none) (hd : A.depth < recursionLimit) (hog : (a, og) ∈ pins) (hgen : ∀ h : Heap, h.get? a = some og → h.IsGen a g)
    (hend : ∀ (b : Bool) (σ' : L2.St) (H' : Hp) (s s' : Shared), Inv G pins σ' H' s → s'.os = s.os → AllBare s'.gens → (∀ b o, s.heap.get? b = some o → s'.heap.get? b = some o) → Q (.bl b) H' → Rr (.ok (.ret (.bool b))) s') :
    ∀ (n : Nat) (s : Shared) (σ : L2.St) (H : Hp), Inv G pins σ H s →
      (∃ gs, s.gens[g]? = some gs ∧ gs.Goes (model G.prog G.w) A.in1.in1 (Rp G pins true Q) (Yp G pins true Q) n (.send .none) (s.setGen g .running)) →
      codeAny (model G.prog G.w) A (.builtin "all.loop" ⟨[.ref a], []⟩) Rr s := by
  intro n
  induction n with
  | zero =>
    intro s σ H I ⟨gs, hgs, hgo⟩
    have hg : s.heap.IsGen a g := hgen _ (I.pin _ (List.mem_append_right _ hog)).1
    refine codeAny_builtin F.entry_all_loop ?_
    rw [Around.under_plainId F.plain_all_loop _]
    show wpAny _ A.in1 (pyNext (.ref a) >>= _) _ _ s
    refine wpAny_bind (next_genG (A := A.in1) hh I.nolimit hd hg hgs hgo (fun v s₁ gs' hbare hv => ?_) (fun s₁ hp h' hk => ?_) fun e s₁ he => he.elim)
    · obtain ⟨b, σ', H', rfl, I', hq, hk⟩ := hv
      cases b with
      | true => exact False.elim (hk rfl s₁ rfl rfl I'.bare)
      | false =>
        refine wpAny_bind (wpAny_holding (wpAny_truthy_bool ?_))
        refine wpAny_bind (wpAny_letGo ?_)
        simp only [Bool.false_eq_true, if_false]
        refine wpAny_bind (wpAny_rule (wpAny_pure ?_))
        exact hend false σ' H' s₁ _ I' rfl (allBare_setGen I'.bare hbare) (fun _ _ e => e) (hq (by simp))
    · obtain ⟨σ', H', I', hQ⟩ := hp
      refine wpAny_bind (wpAny_rule (wpAny_pure ?_))
      exact hend true σ' H' s₁ _ I' rfl (allBare_setGen (s := s₁) I'.bare rfl) hk hQ
  | succ n ih =>
    intro s σ H I ⟨gs, hgs, hgo⟩
    have hg : s.heap.IsGen a g := hgen _ (I.pin _ (List.mem_append_right _ hog)).1
    have hgl : g < s.gens.size := (Array.getElem?_eq_some_iff.mp hgs).1
    refine codeAny_builtin F.entry_all_loop ?_
    rw [Around.under_plainId F.plain_all_loop _]
    show wpAny _ A.in1 (pyNext (.ref a) >>= _) _ _ s
    refine wpAny_bind (wpAny_gsz (n := g + 1) hgl (next_genG (A := A.in1) hh I.nolimit hd hg hgs hgo (fun v s₁ gs' hbare hv => ?_) (fun s₁ hp h' hk => ?_) fun e s₁ he => he.elim))
    · intro hsz
      obtain ⟨b, σ', H', rfl, I', hq, hk⟩ := hv
      refine wpAny_bind (wpAny_holding (wpAny_truthy_bool ?_))
      refine wpAny_bind (wpAny_letGo ?_)
      cases b with
      | false =>
        simp only [Bool.false_eq_true, if_false]
        refine wpAny_bind (wpAny_rule (wpAny_pure ?_))
        exact hend false σ' H' s₁ _ I' rfl (allBare_setGen I'.bare hbare) (fun _ _ e => e) (hq (by simp))
      | true =>
        simp only [if_true]
        have hsz1 : g < s₁.gens.size := by
          have q : (s₁.setGen g gs').gens.size = s₁.gens.size := setGen_size _ _ _
          have hsz' : g + 1 ≤ (s₁.setGen g gs').gens.size := hsz
          omega
        refine wpAny_pure ⟨plainId_quiet F.plain_all_loop _, ih (s₁.setGen g gs') σ' H' (Inv.heapOnly I' rfl rfl (allBare_setGen I'.bare hbare)) ⟨gs', setGen_at hsz1, ?_⟩⟩
        exact hk rfl _ rfl rfl (allBare_setGen (s := s₁.setGen g gs') (allBare_setGen I'.bare hbare) rfl)
    · intro hsz
      obtain ⟨σ', H', I', hQ⟩ := hp
      refine wpAny_bind (wpAny_rule (wpAny_pure ?_))
      exact hend true σ' H' s₁ _ I' rfl (allBare_setGen (s := s₁) I'.bare rfl) hk hQ
end
end GX
set_option Elab.async false
set_option linter.all false
set_option maxRecDepth 100000
set_option maxHeartbeats 4000000
namespace GX
open PySem PySem.Spec PyProof.Rows L2 GxR GenW
section
variable {X : Cx} {pins : List (Addr × Obj)} {σ : L2.St} {H : Hp} {s : Shared}
theorem gen_start {scope : Scope} {own : List (Str × Nat)} {fp : List Addr} {code itv : Value} {A' : Around} {h5 : Heap} {tk a : Nat} {g5 : Array GenState} {og : Obj} (I : Inv X pins σ H s) (ok : BlkOk X.N X.env.scope scope own) (hcell : ∀ y ∈ scope.names, y.2 ≠ .cell) (hN : X.N.Nodup) (hfp : ∀ b ∈ fp, FpOk X pins H b ∧ b < s.heap.objs.size)
    (hA : X.calm = true → A'.handled = none) (hfr : A'.frames = some (genEnv scope (cloFrom X.env.cells scope.names []) s.heap.objs.size code builtinsNs X.env :: X.stack))
    (kp : ∀ b o, s.heap.get? b = some o → h5.get? b = some o) (ns : h5.Ns s.heap.objs.size (fun y => if y = ".0" then some itv else none)) (h0 : (".0" : Str) ∉ X.N) (ha : s.heap.objs.size < a) (hog : h5.get? a = some og) (hod : ∀ v, og.data ≠ .cell v) (hg5 : AllBare g5) :
    Inv (gcx X s H (genEnv scope (cloFrom X.env.cells scope.names []) s.heap.objs.size code builtinsNs X.env) fp A') [(a, og)] (wipe σ (own.map (·.2))) H { s with gens := g5, heap := h5, toks := tk } := by
  have hfree : ∀ y ∈ scope.names, y.2 = .free → ∃ c, X.env.cells.lookup y.1 = some c := fun y hy e => by
    rcases ok.free y hy e with k | k
    · exact I.ok.has _ (.inl k)
    · exact I.ok.has _ (.inr k)
  generalize hcenv : genEnv scope (cloFrom X.env.cells scope.names []) s.heap.objs.size code builtinsNs X.env = cenv at hfr
  have hL : cenv.locals = s.heap.objs.size := by rw [← hcenv]; rfl
  have hcl : cenv.cells = cloFrom X.env.cells scope.names [] := by rw [← hcenv]; rfl
  have hsc : cenv.scope = scope := by rw [← hcenv]; rfl
  have cm : ∀ {y c}, (y, c) ∈ cloFrom X.env.cells scope.names [] → X.env.cells.lookup y = some c ∧ c < s.heap.objs.size := fun {y c} hm => by
    rcases cloFrom_mem hm with hm | ⟨h1, rfl⟩
    · cases hm
    · obtain ⟨c, hc⟩ := hfree _ h1 rfl
      rw [hc]
      obtain ⟨w, z⟩ := I.cell _ _ hc
      exact ⟨rfl, z.lt⟩
  have mem : ∀ {y c}, cenv.cells.lookup y = some c → X.env.cells.lookup y = some c ∧ c < s.heap.objs.size := fun {y c} e => by
    rw [hcl] at e
    exact cm (PySem.mem_of_lookup e)
  have look : ∀ {y}, scope.names.lookup y = some .free → ∃ c, cenv.cells.lookup y = some c ∧ X.env.cells.lookup y = some c := fun {y} hl => by
    have hy : (y, NameKind.free) ∈ scope.names := PySem.mem_of_lookup hl
    obtain ⟨c', e'⟩ := mem_lookup (cloFrom_has (cells := X.env.cells) (acc := []) hy)
    rw [← hcl] at e'
    exact ⟨c', e', (mem e').1⟩
  have okB : (gcx X s H cenv fp A').Ok := by
    refine ⟨I.ok.mod, by show cenv.scope.kind = _; rw [hsc]; exact ok.kind, by show cenv.globals = _; rw [← hcenv]; exact I.ok.glob, by show cenv.builtins = _; rw [← hcenv]; rfl, by show s.heap.objs.size ≤ cenv.locals; rw [hL]; exact Nat.le_refl _,
      fun y z c e1 e2 => I.ok.inj y z c (mem e1).1 (mem e2).1, fun y hy => ?_, fun y c z e => (by cases z), hA, hfr, .inr ⟨rfl, by show cenv.frame = some cenv.locals; rw [hL, ← hcenv]; rfl⟩, fun b hb => ⟨?_, fun y c e z => ?_⟩, I.bs, Nat.le_trans I.ok.bsz I.sz, fun b o e hb => ?_, fun b hb z => ?_, I.stack, I.stkFree⟩
    · show ∃ c, cenv.cells.lookup y = some c
      have key : ∀ k, cenv.kindOf y = some k → (k = .cell ∨ k = .free) → ∃ c, cenv.cells.lookup y = some c := fun k hk hk' => by
        unfold Env.kindOf at hk
        rw [hsc] at hk
        rcases hk' with rfl | rfl
        · exact absurd rfl (hcell _ (PySem.mem_of_lookup hk))
        · obtain ⟨c, h1, _⟩ := look hk
          exact ⟨c, h1⟩
      rcases hy with hy | hy
      · exact key _ hy (.inl rfl)
      · exact key _ hy (.inr rfl)
    · show b ≠ cenv.locals
      rw [hL]; exact Nat.ne_of_lt (hfp b hb).2
    · exact (hfp b hb).1.2.2.2.2.1 y c (mem e).1 z
    · rcases (hfp b hb).1.2.2.2.1 with z | z
      · exact I.ok.noex b o e z
      · exact absurd (Nat.lt_of_lt_of_le (Heap.lt_size e) (Nat.le_trans I.ok.bsz z)) (Nat.lt_irrefl _)
    · rcases List.mem_cons.mp (I.stkSub b z) with z | z
      · exact (hfp b hb).1.2.1 z
      · exact (hfp b hb).1.2.2.1 z
  refine ⟨okB, rfl, hg5, Un.kept kp, ⟨_, by show Heap.Ns _ cenv.locals _; rw [hL]; exact ns, fun i y av e1 e2 e3 => ?_⟩, fun y c e => ?_, ?_, fun y c e => ?_, fun p hp => ?_, I.hok.kept kp, by rw [wipe_length]; exact I.len⟩
  · obtain ⟨e2, hne⟩ := wipe_some e2
    have e3 : Vis cenv.scope y := e3
    rw [hsc] at e3
    have no : ∀ k, scope.names.lookup y = some k → ¬ (k = .local ∨ k = .cell) := fun k e hh => by
      rcases ok.own _ (PySem.mem_of_lookup e) hh with e' | e'
      · obtain ⟨p, hp, hpy⟩ := List.mem_map.mp e'
        have e3 := ok.ix p hp
        have : p.1 = y := hpy
        rw [this] at e3
        exact hne (List.mem_map.mpr ⟨p, hp, nodup_ix hN e3 e1⟩)
      · exact e' (List.mem_of_getElem? e1)
    have hfr2 : scope.names.lookup y = some .free := by
      rcases e3 with e3 | e3 | e3
      · exact absurd (.inl rfl) (no _ e3)
      · exact absurd (.inr rfl) (no _ e3)
      · exact e3
    obtain ⟨m, hn, hl⟩ := I.loc
    have hvis : Vis X.env.scope y := (ok.free _ (PySem.mem_of_lookup hfr2) rfl).elim (fun k => .inr (.inl k)) (fun k => .inr (.inr k))
    obtain ⟨w, r, q⟩ := hl i y av e1 e2 hvis
    refine ⟨w, r, .inr ⟨.inr (by show cenv.kindOf y = _; unfold Env.kindOf; rw [hsc]; exact hfr2), ?_⟩⟩
    obtain ⟨c, h1, h2⟩ := look hfr2
    rcases q with ⟨k, _⟩ | ⟨_, c', e', z⟩
    · have k : X.env.scope.names.lookup y = some .local := k
      rcases ok.free _ (PySem.mem_of_lookup hfr2) rfl with k' | k' <;> rw [show X.env.scope.names.lookup y = _ from k'] at k <;> cases k
    · rw [h2] at e'; cases e'
      exact ⟨c, h1, z.keeps kp⟩
  · obtain ⟨w, z⟩ := I.cell y c (mem e).1
    exact ⟨w, z.keeps kp⟩
  · show H cenv.locals = none
    rw [hL]; exact I.hok.fresh (Nat.le_refl _)
  · exact I.freeC y c (mem e).1
  · have hp : p ∈ [(a, og)] := hp
    rcases List.mem_cons.mp hp with rfl | hp
    · refine ⟨hog, I.hok.fresh (Nat.le_of_lt ha), ?_, fun z => ?_, hod⟩
      · show a ≠ cenv.locals
        rw [hL]; exact Nat.ne_of_gt ha
      · have z : a ∈ frs X.stack := z
        rcases List.mem_cons.mp (I.stkSub a z) with z | z
        · have := I.lt
          rw [← z] at this
          exact absurd (Nat.lt_trans ha this) (Nat.lt_irrefl _)
        · exact I.nofs (Nat.le_of_lt ha) z
    · cases hp
end
end GX
set_option Elab.async false
set_option linter.all false
set_option maxRecDepth 100000
set_option maxHeartbeats 4000000
namespace GX
open PySem PySem.Spec PyProof.Rows L2 GxR GenW
section
variable {X : Cx} {pins : List (Addr × Obj)} {σ : L2.St} {H : Hp} {s : Shared}
def tAG (isAll : Bool) (P : Addr) (wi : TI) (g : TG) (te : TE) (vs : List Nat) : TE := fun σ H Q => wi σ H fun J H1 => TabG H1 P ∧ ∀ H2, Tabbed P H1 H2 → ∃ W : Nat → Nat → Hp → Prop, (∃ m, W 0 m H2) ∧ Turns isAll J g te (wipe σ vs) vs Q W
def Rdy (X : Cx) (pins : List (Addr × Obj)) (σ : L2.St) (isAll : Bool) (Q : VK) (a : Addr) (s5 : Shared) : Prop :=
  ∃ (s4 : Shared) (H4 : Hp) (cenv : PySem.Env) (fp : List Addr) (A' : Around) (og : Obj) (g n : Nat) (τ : L2.St) (H5 : Hp) (gs : GenState), (∀ h : Heap, h.get? a = some og → h.IsGen a g) ∧ Inv (gcx X s4 H4 cenv fp A') [(a, og)] τ H5 s5 ∧ s5.gens[g]? = some gs ∧
    gs.Goes (model X.prog X.w) X.A.in1.in1 (Rp (gcx X s4 H4 cenv fp A') [(a, og)] isAll Q) (Yp (gcx X s4 H4 cenv fp A') [(a, og)] isAll Q) n (.send .none) (s5.setGen g .running) ∧
    ∀ (σ' : L2.St) (H' : Hp) (s' s'' : Shared), Inv (gcx X s4 H4 cenv fp A') [(a, og)] σ' H' s' → s''.os = s'.os → AllBare s''.gens → (∀ b o, s'.heap.get? b = some o → s''.heap.get? b = some o) → Inv X pins σ H' s''
theorem wipe_idem {σ : L2.St} : ∀ vs : List Nat, wipe (wipe σ vs) vs = wipe σ vs := fun vs => by
  have win : ∀ {σ : L2.St} {vs : List Nat} {j : Nat}, j ∈ vs → (wipe σ vs)[j]? = if j < σ.length then some none else none := by
    intro σ vs
    induction vs with
    | nil => intro j h; simp at h
    | cons v vs ih =>
      intro j h
      unfold wipe
      by_cases e : v = j
      · subst e
        by_cases hl : v < σ.length
        · rw [List.getElem?_set_self (by rw [wipe_length]; exact hl), if_pos hl]
        · rw [List.getElem?_eq_none (by rw [List.length_set, wipe_length]; omega), if_neg hl]
      · rw [List.getElem?_set_ne e]
        exact ih ((List.mem_cons.mp h).resolve_left (fun z => e z.symm))
  have wout : ∀ {σ : L2.St} {vs : List Nat} {j : Nat}, j ∉ vs → (wipe σ vs)[j]? = σ[j]? := by
    intro σ vs
    induction vs with
    | nil => intro j h; rfl
    | cons v vs ih =>
      intro j h
      simp only [List.mem_cons, not_or] at h
      unfold wipe
      rw [List.getElem?_set_ne (fun z => h.1 z.symm)]
      exact ih h.2
  apply List.ext_getElem?
  intro j
  by_cases hj : j ∈ vs
  · rw [win hj, win hj, wipe_length]
  · rw [wout hj]
theorem gen_made {c P : Addr} {isAll : Bool} {elt tg iter : Expr} {gpos : Pos} {scope : Scope} {own : List (Str × Nat)} {wi : TI} {g : TG} {te : TE} {k : Nat} {Q : VK} {Q' : Value → Shared → Prop}
    (hr : Room k X.A) (hc : X.calm = true) (TB : TabB X.base X.mg c P) (hcode : X.env.code = .ref c) (ok : BlkOk X.N X.env.scope scope own) (hcell : ∀ y ∈ scope.names, y.2 ≠ .cell) (hdot : scope.names.lookup (".0" : Str) = some NameKind.local) (hco : scope.isCoroutine = false) (hN : X.N.Nodup) (h0 : (".0" : Str) ∉ X.N)
    (hi : PI X tg iter wi) (hgt : ∀ (s : Shared) (H : Hp) (C : Addr) (cl : List (Str × Addr)) (code : Value) (fp : List Addr), PG (gcx X s H (genEnv scope cl C code builtinsNs X.env) fp (gA X.A (genEnv scope cl C code builtinsNs X.env))) tg g)
    (hel : ∀ (s : Shared) (H : Hp) (C : Addr) (cl : List (Str × Addr)) (code : Value) (fp : List Addr), PE (gcx X s H (genEnv scope cl C code builtinsNs X.env) fp (gA X.A (genEnv scope cl C code builtinsNs X.env))) elt te)
    (hs : ∀ v, genFold iter X.env v = pure v) (I : Inv X pins σ H s) (h : tAG isAll P wi g te (own.map (·.2)) σ H Q)
    (hQ : ∀ a s5, Rdy X pins σ isAll Q a s5 → Q' (.ref a) s5) :
    wpAny (model X.prog X.w) X.A (eval (.GeneratorExp elt [⟨tg, iter, [], 0⟩] scope gpos) X.env) Q' X.xe s := by
  have hfree : ∀ y ∈ scope.names, y.2 = .free → ∃ c, X.env.cells.lookup y.1 = some c := fun y hy e => by
    rcases ok.free y hy e with k | k
    · exact I.ok.has _ (.inl k)
    · exact I.ok.has _ (.inr k)
  refine wpAny_GeneratorExp_make hco (closure_ok hfree) hcell hdot ok.kind (by have := hr.dp; omega) ?_ hs
  refine thn (hi.run pins s σ H _ I h) fun xv s1 hx => thn hx fun itv s2 h2 => ?_
  obtain ⟨it, fp, tn, J, H2, e, I2, T, st2, f2, ⟨ps, hP, ht⟩, q⟩ := h2
  subst e
  have hPs : s2.heap.get? P = some { cls := .none, data := .fields ps } := I2.hok P _ hP
  have cd : PySem.W.CodeHd s2.heap c P := TB.code.keeps I2.bk
  refine ⟨I2.nolimit, ?_⟩
  have sz : ∀ b ∈ fp, b < s2.heap.objs.size := fun b hb => by
    obtain ⟨o, e, _⟩ := T.obj _ _ st2 b hb
    exact Heap.lt_size e
  have nPf : ∀ b ∈ fp, b ≠ P := fun b hb z => by
    have := (f2 b hb).1
    rw [z, hP] at this; cases this
  have cont : ∀ (code : Value) (h3 : Heap) (tk : Nat) (ps' : Array Value), Heap.ExtBut P s2.heap h3 → s2.heap.objs.size ≤ h3.objs.size → h3.get? P = some { cls := .none, data := .fields ps' } → (∃ more, ps' = ps ++ more) → TriplesOk ps'.toList →
      wpAny (model X.prog X.w) X.A (builtinsFor X.env.globals X.env.builtins) (fun bi s₄ =>
        ∀ h', h'.Ns s₄.heap.objs.size (fun y => if y = ".0" then some (.ref it) else none) → Heap.SameBut s₄.heap.objs.size (s₄.heap.push { cls := .type "frame", data := .dict #[] }) h' →
          Q' (.ref h'.objs.size) { s₄ with
            gens := s₄.gens.push (.fresh (.compStart (.GeneratorExp elt [⟨tg, iter, [], 0⟩] scope gpos) 0 (.ref it) .none (genEnv scope (cloFrom X.env.cells scope.names []) s₄.heap.objs.size code bi X.env))),
            toks := s₄.toks + 1 + 1 + 1,
            heap := h'.push { cls := .type "generator", data := .fields #[.int s₄.gens.size 0, .str "<genexpr>" (s₄.toks + 1), .str (X.env.qual ++ "<genexpr>") (s₄.toks + 1 + 1)] } }) X.xe { s2 with heap := h3, toks := tk } := by
    intro code h3 tk ps' hx hsz hP3 hmore ht3
    obtain ⟨bm, ob, e1, e2, e3, e4, e5, e6, e7, e8⟩ := TB.bm
    have keep3 : ∀ b u, b ≠ P → s2.heap.get? b = some u → h3.get? b = some u := fun b u hb e => hx b u hb e
    refine wpAny_builtinsFor (m := X.mg) (by rw [I2.ok.glob]; exact (I2.mod.glob.keeps I2.bk).extBut hx TB.gP) e1 e2 (keep3 _ _ e4 (I2.bk _ _ e5)) e6 e7 e8 ?_
    intro h' hn' hs'
    obtain ⟨more, em⟩ := hmore
    have I3 : Inv X pins σ (upd H2 P (.tbl (ps ++ more))) { s2 with heap := h3, toks := tk } :=
      inv_tab (more := more) (h' := h3) (g' := s2.gens) (d' := s2.drawn) (t' := tk) I2 hP keep3 (by rw [← em]; exact hP3) I2.bare
    obtain ⟨W, ⟨m0, w0⟩, turn⟩ := q (upd H2 P (.tbl (ps ++ more))) ⟨⟨ps ++ more, upd_same, by rw [← em]; exact ht3⟩, fun b hb => upd_ne hb⟩
    have hszh : h'.objs.size = h3.objs.size + 1 := by rw [hs'.1, Heap.size_push]
    have kp' : ∀ b o, h3.get? b = some o → h'.get? b = some o := fun b o e => hs'.extBut b o (Nat.ne_of_lt (Heap.lt_size e)) (Heap.get?_push_of_some _ e)
    have f3 : ∀ b ∈ fp, FpOk X pins (upd H2 P (.tbl (ps ++ more))) b ∧ b < h3.objs.size := fun b hb => by
      refine ⟨⟨?_, (f2 b hb).2⟩, Nat.lt_of_lt_of_le (sz b hb) hsz⟩
      rw [upd_ne (nPf b hb)]
      exact (f2 b hb).1
    have nfp : ∀ b ∈ fp, (upd H2 P (.tbl (ps ++ more))) b = none := fun b hb => (f3 b hb).1.1
    have st3 : tn 0 h3 := T.keep _ _ _ st2 fun b hb o e => keep3 b o (nPf b hb) e
    generalize hog : ({ cls := .type "generator", data := .fields #[.int s2.gens.size 0, .str "<genexpr>" (tk + 1), .str (X.env.qual ++ "<genexpr>") (tk + 1 + 1)] } : Obj) = og
    have hget : (h'.push og).get? h'.objs.size = some og := by rw [← hog]; exact Heap.get?_push_size _ rfl
    have hgen : ∀ h : Heap, h.get? h'.objs.size = some og → h.IsGen h'.objs.size s2.gens.size := fun h e => ⟨og, _, _, e, by rw [← hog], by rw [← hog], by rw [← hog]⟩
    have I5 := gen_start (a := h'.objs.size) (og := og) (code := code) (itv := .ref it) (A' := gA X.A (genEnv scope (cloFrom X.env.cells scope.names []) h3.objs.size code builtinsNs X.env)) (h5 := h'.push og) (tk := tk + 1 + 1 + 1)
      (g5 := s2.gens.push (.fresh (.compStart (.GeneratorExp elt [⟨tg, iter, [], 0⟩] scope gpos) 0 (.ref it) .none (genEnv scope (cloFrom X.env.cells scope.names []) h3.objs.size code builtinsNs X.env)))) I3 ok hcell hN f3 (fun _ => hr.hd)
      (by first | (show Option.map _ X.A.frames = _; rw [I3.ok.frames]; rfl) | (simp [gA, Around.deeper, Around.in1, I3.ok.frames])) (fun b o e => Heap.get?_push_of_some _ (kp' b o e)) (hn'.push _) h0 (by rw [hszh]; exact Nat.lt_succ_self _) hget (by rw [← hog]; intro v z; cases z) (I2.bare.push rfl)
    have hp2 : ∀ p ∈ ([] : List (Addr × Obj)) ++ [(h'.objs.size, og)], p.1 ∉ fp := fun p hp hb => by
      have hp : p ∈ [(h'.objs.size, og)] := hp
      rcases List.mem_cons.mp hp with rfl | hp
      · have z := (f3 _ hb).2
        have z : h'.objs.size < h3.objs.size := z
        omega
      · cases hp
    refine hQ _ _ ⟨_, _, _, fp, _, og, s2.gens.size, m0 + 1, _, _, _, hgen, I5, Array.getElem?_push_size .., ?_, fun σ' H' s' s'' I' ho hg hk => ?_⟩
    · refine ⟨rfl, ?_⟩
      have I6 := Inv.heapOnly (s' := Shared.setGen { s2 with gens := s2.gens.push (.fresh (.compStart (.GeneratorExp elt [⟨tg, iter, [], 0⟩] scope gpos) 0 (.ref it) .none (genEnv scope (cloFrom X.env.cells scope.names []) h3.objs.size code builtinsNs X.env))), heap := h'.push og, toks := tk + 1 + 1 + 1 } s2.gens.size .running) I5 rfl rfl (allBare_setGen (I2.bare.push rfl) rfl)
      have st5 : tn 0 (h'.push og) := T.keep _ _ _ st3 fun b hb o e => Heap.get?_push_of_some _ (kp' b o e)
      exact goes_start (G := gcx X _ _ _ fp _) (B := X.A.in1.in1) hr.hd T st5
        (seg_gen (G := gcx X _ _ _ fp _) (B := X.A.in1.in1) (vs := own.map (·.2)) rfl rfl (fun b hb => hb) hp2 (wipe_idem _) hc hco T (hgt _ _ _ _ _ _) (hel _ _ _ _ _ _) turn (m0 + 1) m0 0 _ _ _ (Nat.lt_succ_self _) I6 st5 nfp w0)
    · have J1 := I3.call' (s' := s') (ch := fp) I'.os I'.base I'.hok I'.bare fun b hb => ⟨(f3 b hb).1.2.2.2.1, (f3 b hb).1.2.1, (f3 b hb).1.2.2.2.2.1, (f3 b hb).1.2.2.2.2.2⟩
      exact J1.call' (s' := s'') (ch := []) ho (Un.kept hk) (J1.hok.kept hk) hg fun b hb => nomatch hb
  cases hf : codeAmong gpos ps.toList with
  | none =>
    refine wpAny_genexprCodeX hcode (cd.code hPs ht) (cd.tab hPs) hf fun c' h' tk hx hge hlt hco' _ htab' _ => ?_
    obtain ⟨o1, vs, f1, tf, fl, tg2, inF, tx, tt, op, _, _, _, _, _, _, _, _, _, htr, _⟩ := hco'
    exact cont _ h' tk _ hx (Nat.le_trans hge (Nat.le_of_lt hlt)) htab'.2 ⟨_, rfl⟩ htr
  | some cv =>
    refine wpAny_genexprCode_hit hcode (cd.code hPs ht) hf ?_
    exact cont cv s2.heap s2.toks ps (Heap.ExtBut.refl _ _) (Nat.le_refl _) hPs ⟨#[], by simp⟩ ht
theorem pe_allG {c P : Addr} {elt tg iter : Expr} {p pos gpos : Pos} {scope : Scope} {own : List (Str × Nat)} {wi : TI} {g : TG} {te : TE} {k : Nat}
    (hr : Room k X.A) (hc : X.calm = true) (hg : Gl X "all") (hm : X.mg "all" = none) (TB : TabB X.base X.mg c P) (hcode : X.env.code = .ref c) (ok : BlkOk X.N X.env.scope scope own) (hcell : ∀ y ∈ scope.names, y.2 ≠ .cell) (hdot : scope.names.lookup (".0" : Str) = some NameKind.local) (hco : scope.isCoroutine = false) (hN : X.N.Nodup) (h0 : (".0" : Str) ∉ X.N)
    (hi : PI X tg iter wi) (hgt : ∀ (s : Shared) (H : Hp) (C : Addr) (cl : List (Str × Addr)) (code : Value) (fp : List Addr), PG (gcx X s H (genEnv scope cl C code builtinsNs X.env) fp (gA X.A (genEnv scope cl C code builtinsNs X.env))) tg g)
    (hel : ∀ (s : Shared) (H : Hp) (C : Addr) (cl : List (Str × Addr)) (code : Value) (fp : List Addr), PE (gcx X s H (genEnv scope cl C code builtinsNs X.env) fp (gA X.A (genEnv scope cl C code builtinsNs X.env))) elt te)
    (hs : ∀ v, genFold iter X.env v = pure v := by intro _; rfl)
    (he : starEach [.GeneratorExp elt [⟨tg, iter, [], 0⟩] scope gpos] X.env = (false, eval (.GeneratorExp elt [⟨tg, iter, [], 0⟩] scope gpos) X.env) :: starEach [] X.env := by rfl) :
    PE X (.Call (.Name "all" p) [.GeneratorExp elt [⟨tg, iter, [], 0⟩] scope gpos] [] pos) (tAG true P wi g te (own.map (·.2))) := by
  refine ⟨fun pins s σ H Q I h => ?_⟩
  refine wpAny_Call_Name_kw (ld_blt I hg hm (show bootBuiltins "all" = some (.builtin "all") by decide +kernel) ?_)
  refine PyProof.Rows.callWith_builtin1 ?_ he (by rfl)
  rw [he]
  show wpAny _ _ (spliced ((false, eval (.GeneratorExp elt [⟨tg, iter, [], 0⟩] scope gpos) X.env) :: backTo pos (starEach [] X.env))) _ _ s
  refine Calls.spliced_cons (gen_made hr hc TB hcode ok hcell hdot hco hN h0 hi hgt hel hs I h fun a s5 hR => ?_)
  obtain ⟨s4, H4, cenv, fp, A', og, gg, n, τ, H5, gs, hgen, I5, hgs, hgo, hend⟩ := hR
  refine Calls.spliced_nil ?_
  refine call_function_tree F.kind_all F.plain_all F.entry_all (F.args_all1 _) ?_
  unfold Builtin.«all»
  refine wpAny_bind (m := oneArg "all" _) (wpAny_pure ?_)
  refine wpAny_bind (wpAny_pyIter_gen (hgen _ (I5.pin _ (List.mem_append_right _ (List.mem_cons_self ..))).1) ?_)
  refine wpAny_pure ⟨plainId_quiet F.plain_all_loop _, ?_⟩
  refine drive_all (G := gcx X s4 H4 cenv fp A') (A := X.A) (og := og) (g := gg) hr.hd hr.depth (List.mem_cons_self ..) hgen (fun b σ' H' s' s'' I' ho hg' hk hq => ?_) n s5 τ H5 I5 ⟨gs, hgs, hgo⟩
  exact ⟨.bl b, H', hend σ' H' s' s'' I' ho hg' hk, rfl, hq⟩
theorem Room.gen {k : Nat} {A : Around} (r : Room (k + 1) A) (env : PySem.Env) : Room k (gA A env) :=
  ⟨r.hd, by have := r.dp; show A.depth + 1 + 3 * k + 5 < _; omega, by have := r.un; show A.units + 1 + 1 + 3 + 16 * k + 200 < _; omega⟩
end
end GX
set_option Elab.async false
set_option linter.all false
set_option maxRecDepth 100000
set_option maxHeartbeats 4000000
namespace VL
noncomputable section
open PySem PySem.Spec PyProof.Rows L2
variable [CM]
section
variable {K : PySem.W.Frag} {c : VC} {Wx : WX} {X : Cx}
theorem Rl.rest {f : Fm} {Hb1 Hb2 H1 H2 : Hp} {env1 env2 : Env} {σ : L2.St} {vs : List Nat} (R1 : Rl K c f Hb1 env1 σ H1) (hv : okVs c vs env1) (R3 : Rl K c f Hb2 env2 (L2.wipe σ vs) H2) (s2 : Same Hb1 Hb2) : Rl K c f Hb2 (restE env1 env2 vs) σ H2 := by
  have ownD : ∀ {j : Nat} {oc : OC}, (restE env1 env2 vs)[j]? = some (some (.own oc)) → j ∉ vs ∧ env2[j]? = some (some (.own oc)) := fun {j oc} e => by
    rcases restE_get _ _ _ _ _ e with ⟨h1, h2⟩ | h
    · exact ((hv j h1).2 oc h2).elim
    · exact h
  refine ⟨by rw [restE_len, ← R3.len, wipe_length], fun {j d} e => ?_, fun {j oc} e => ?_, fun {i j o1 o2 b} e1 e2 e3 e4 => ?_, R3.sub, R3.frm, R3.frb, R3.tab, R1.fix, R3.xv⟩
  · rcases restE_get _ _ _ _ _ e with ⟨h1, h2⟩ | ⟨h1, h2⟩
    · obtain ⟨v, h3, h4⟩ := R1.val h2
      exact ⟨v, h3, h4.mn s2⟩
    · obtain ⟨v, h3, h4⟩ := R3.val h2
      rw [wipe_out h1] at h3
      exact ⟨v, h3, h4⟩
  · obtain ⟨h1, h2⟩ := ownD e
    obtain ⟨a, h3, h4⟩ := R3.own h2
    rw [wipe_out h1] at h3
    exact ⟨a, h3, h4⟩
  · obtain ⟨h1, h2⟩ := ownD e1
    obtain ⟨h3, h4⟩ := ownD e2
    exact R3.inj h2 h4 (by rw [wipe_out h1]; exact e3) (by rw [wipe_out h3]; exact e4)
theorem Rl.tabbed {f : Fm} {Hb H H2 : Hp} {env : Env} {σ : L2.St} {P : Addr} (R : Rl K c f Hb env σ H) (hP : P ∈ c.T ∧ CM.lq.lookup P = none) (t : GxR.Tabbed P H H2) : Rl K c f Hb env σ H2 := by
  obtain ⟨t1, t2⟩ := t
  obtain ⟨g1, g2, g3⟩ := R.tab P hP.1
  refine ⟨R.len, R.val, fun {i oc} e => ?_, R.inj, fun b o e => ?_, fun b o e => ?_, R.frb, fun P' hP' => ?_, R.fix, R.xv⟩
  · obtain ⟨a, h1, h2, h3, h4⟩ := R.own e
    have ne : a ≠ P := fun z => h4.notab g1.g z.symm
    exact ⟨a, h1, h2, h3, h4.mn (Same.refl _) fun o q => by rw [t2 a ne]; exact q⟩
  · rw [t2 b (ne_of_none e g2)]; exact R.sub b o e
  · rw [t2 b (ne_of_none e g3)]; exact R.frm b o e
  · obtain ⟨h1, h2, h3⟩ := R.tab P' hP'
    by_cases z : P' = P
    · subst z; exact ⟨.of t1 hP.2, h2, h3⟩
    · obtain ⟨ps, e, w⟩ := h1
      exact ⟨⟨ps, by rw [t2 P' z]; exact e, w⟩, h2, h3⟩
def elA (vs : List Nat) : R Env W → R Env Bool
  | .ok (.val (.bl b)) e => .ok b (wipeE e vs)
  | _ => .no
@[simp] theorem elA_b {vs : List Nat} {b : Bool} {e : Env} : elA vs (.ok (.val (.bl b)) e) = .ok b (wipeE e vs) := rfl
def turnA1 (el : ME) (vs : List Nat) : Option Env → R Env Bool
  | some e => elA vs (el e)
  | none => .no
@[simp] theorem turnA1_s {el : ME} {vs : List Nat} {e : Env} : turnA1 el vs (some e) = elA vs (el e) := rfl
@[simp] def turnA (g : GM) (el : ME) (vs : List Nat) (d : D) (e : Env) : R Env Bool := turnA1 el vs (g d e)
def allK (isAll : Bool) (rec : Env → R Env Bool) : R Env Bool → R Env Bool
  | .ok b e => if b = isAll then rec e else .ok (!isAll) e
  | .ex C fs s => .ex C fs s
  | .no => .no
def allM (isAll : Bool) (g : GM) (el : ME) (vs : List Nat) : List D → Env → R Env Bool
  | [], e => .ok isAll e
  | d :: ds, e => allK isAll (allM isAll g el vs ds) (turnA g el vs d e)
def ag3 (e0 : Env) (vs : List Nat) : R Env Bool → R Env W
  | .ok b e => .ok (.val (.bl b)) (restE e0 e vs)
  | _ => .no
@[simp] theorem ag3_c {e0 e : Env} {vs : List Nat} {b : Bool} : ag3 e0 vs (.ok b e) = .ok (.val (.bl b)) (restE e0 e vs) := rfl
def ag2 (e0 : Env) (vs : List Nat) (r : R Env Bool) : Bool → R Env W
  | true => ag3 e0 vs r
  | false => .no
@[simp] theorem ag2_c {e0 : Env} {vs : List Nat} {r : R Env Bool} : ag2 e0 vs r true = ag3 e0 vs r := rfl
def ag1 (isAll : Bool) (fx : List Nat) (g : GM) (el : ME) (vs : List Nat) : R Env (List D) → R Env W
  | .ok ds e => ag2 e vs (allM isAll g el vs ds (wipeE e vs)) (okE fx vs e)
  | .ex C fs s => .ex C fs s
  | .no => .no
@[simp] theorem ag1_c {isAll : Bool} {fx : List Nat} {g : GM} {el : ME} {vs : List Nat} {ds : List D} {e : Env} : ag1 isAll fx g el vs (.ok ds e) = ag2 e vs (allM isAll g el vs ds (wipeE e vs)) (okE fx vs e) := rfl
@[simp] def mAG (isAll : Bool) (fx : List Nat) (it : MI) (g : GM) (el : ME) (vs : List Nat) (e : Env) : R Env W := ag1 isAll fx g el vs (it e)
theorem allM_cons {isAll : Bool} {g : GM} {el : ME} {vs : List Nat} {d : D} {ds : List D} {e : Env} : allM isAll g el vs (d :: ds) e = allK isAll (allM isAll g el vs ds) (turnA g el vs d e) := rfl
theorem all_of {ι : Type} {g : GM} {el : ME} {vs : List Nat} {e : Env} (en : ι → D) (p : ι → Bool) : ∀ xs : List ι, (∀ x ∈ xs, turnA g el vs (en x) e = .ok (p x) e) → allM true g el vs (xs.map en) e = .ok (xs.all p) e
  | [], _ => rfl
  | x :: xs, h => by
    rw [List.map_cons, allM_cons, h x (List.mem_cons_self ..), List.all_cons]
    have ih := all_of en p xs fun y hy => h y (List.mem_cons_of_mem _ hy)
    cases hp : p x with
    | true => simpa [allK] using ih
    | false => simp [allK]
theorem sim_ag {isAll : Bool} {P : Addr} {wi : TI} {it : MI} {g : TG} {gm : GM} {te : TE} {el : ME} {ss vs : List Nat} (hP : P ∈ c.T ∧ CM.lq.lookup P = none) (hss : ∀ j ∈ ss, j ∈ vs) (hi : SimI K c Wx wi (vR it)) (hg : SimG K c ss g (vGm gm)) (he : SimE K c W0 te (vR el)) : SimE K c Wx (GX.tAG isAll P wi g te vs) (vR (mAG isAll c.fx it gm el vs)) := by
  intro f Hb env σ H Q QX Q' R q px k
  have q : (ag1 isAll c.fx gm el vs (it env)).po Q QX := q
  refine hi f Hb env σ H (fun ds e => okVs c vs e ∧ (allM isAll gm el vs ds (wipeE e vs)).po (fun b e2 => Q (.val (.bl b)) (restE e e2 vs)) noX) QX _ R ?_ px fun items env1 J H1 Hb1 s1 R1 itk q1 => ?_
  · show (it env).po _ QX
    cases hA : it env with
    | ex C fs s => rw [hA] at q; exact q
    | no => rw [hA] at q; exact q
    | ok ds e =>
      rw [hA] at q
      have q : (ag2 e vs (allM isAll gm el vs ds (wipeE e vs)) (okE c.fx vs e)).po Q QX := q
      cases hK : okE c.fx vs e with
      | false => rw [hK] at q; exact q.elim
      | true =>
        rw [hK] at q
        have q : (ag3 e vs (allM isAll gm el vs ds (wipeE e vs))).po Q QX := q
        refine ⟨okE_of hK, ?_⟩
        cases hB : allM isAll gm el vs ds (wipeE e vs) with
        | ex C fs s => rw [hB] at q; exact q.elim
        | no => rw [hB] at q; exact q
        | ok b e2 => rw [hB] at q; exact q
  · obtain ⟨hv, q1⟩ := q1
    refine ⟨(R1.tab P hP.1).1.g, fun H2 ht => ?_⟩
    have Rw := (R1.tabbed hP ht).wipe fun v hv' => (hv v hv').1
    refine ⟨fun i m H' => ∃ env' Hb', Same Hb1 Hb' ∧ Rl K c f Hb' env' (L2.wipe σ vs) H' ∧ m = items.length - i ∧ i ≤ items.length ∧ (allM isAll gm el vs (items.drop i) env').po (fun b e2 => Q (.val (.bl b)) (restE env1 e2 vs)) noX, ⟨items.length, _, Hb1, Same.refl _, Rw, by simp, Nat.zero_le _, q1⟩, ?_⟩
    rintro i m H3 ⟨env3, Hb3, s3, R3, rfl, hi3, q3⟩
    have fin : ∀ {b : Bool} {e2 : Env} {H' Hb' : Hp}, Same Hb1 Hb' → Rl K c f Hb' e2 (L2.wipe σ vs) H' → Q (.val (.bl b)) (restE env1 e2 vs) → Q' (.bl b) H' := fun {b e2 H' Hb'} s R' q => k (.val (.bl b)) _ _ _ _ (s1.trans s) (R1.rest hv R' s) (.bl b) q
    by_cases hlt : i < items.length
    · rw [List.drop_eq_getElem_cons hlt, allM_cons] at q3
      refine .inr ⟨itk.go i Hb3 H3 s3 R3.sub hlt, fun x H4 hy => ?_⟩
      obtain ⟨Hb4, x4, r4⟩ := itk.yld i _ x Hb3 H3 H4 s3 R3.sub (List.getElem?_eq_getElem hlt) hy
      have q3 : (allK isAll (allM isAll gm el vs (items.drop (i + 1))) (turnA1 el vs (gm items[i] env3))).po (fun b e2 => Q (.val (.bl b)) (restE env1 e2 vs)) noX := q3
      refine hg f Hb4 env3 _ H4 _ x (fun e => (allK isAll (allM isAll gm el vs (items.drop (i + 1))) (elA vs (el e))).po (fun b e2 => Q (.val (.bl b)) (restE env1 e2 vs)) noX) _ (R3.ext x4) r4 ?_ fun env5 σ5 H5 Hb5 s5 R5 n5 q5 => ?_
      · show poO _ (gm items[i] env3)
        cases hG : gm items[i] env3 with
        | none => rw [hG] at q3; exact q3
        | some e => rw [hG] at q3; exact q3
      · have hw : L2.wipe σ5 vs = L2.wipe σ vs := by
          rw [← wipe_wipe (σ := σ)]
          exact wipe_eq n5.1 fun j hj => n5.2 j fun z => hj (hss j z)
        refine ⟨hw, ?_⟩
        refine he f Hb5 env5 σ5 H5 (fun w e => (allK isAll (allM isAll gm el vs (items.drop (i + 1))) (elA vs (.ok w e))).po (fun b e2 => Q (.val (.bl b)) (restE env1 e2 vs)) noX) noX _ R5 ?_ px0 fun w env6 v6 H6 Hb6 s6 R6 r6 q6 => ?_
        · show (el env5).po _ noX
          cases hE : el env5 with
          | ex C fs s => rw [hE] at q5; exact q5
          | no => rw [hE] at q5; exact q5
          | ok w e => rw [hE] at q5; exact q5
        · have ss := s3.trans ((x4.b.trans s5).trans s6)
          have Rn : Rl K c f Hb6 (wipeE env6 vs) (L2.wipe σ vs) H6 := by
            rw [← hw]
            exact R6.wipe fun v hv' => (hv v hv').1
          cases w with
          | cel j => exact q6.elim
          | tmp oc => exact q6.elim
          | val d =>
            cases d with
            | bl b =>
              cases r6
              have q6 : (if b = isAll then allM isAll gm el vs (items.drop (i + 1)) (wipeE env6 vs) else .ok (!isAll) (wipeE env6 vs)).po (fun b e2 => Q (.val (.bl b)) (restE env1 e2 vs)) noX := q6
              refine ⟨b, rfl, ?_⟩
              by_cases hb : b = isAll
              · rw [if_pos hb] at q6 ⊢
                exact ⟨items.length - (i + 1), by omega, _, Hb6, ss, Rn, rfl, hlt, q6⟩
              · rw [if_neg hb] at q6 ⊢
                exact fin ss Rn q6
            | _ => exact q6.elim
    · have hi4 : i = items.length := by omega
      rw [hi4, List.drop_length] at q3
      exact .inl ⟨itk.stop i Hb3 H3 s3 R3.sub (by omega), fin s3 R3 q3⟩
structure GBlk (X : Cx) (c : VC) (scope : Scope) (own : List (Str × Nat)) (ss : List Nat) (tg elt : Expr) (g : TG) (gm : GM) (te : TE) (el : ME) : Prop where
  ok : BlkOk X.N X.env.scope scope own
  sub : ∀ j ∈ ss, j ∈ own.map (·.2)
  cell : ∀ y ∈ scope.names, y.2 ≠ .cell
  dot : scope.names.lookup (".0" : Str) = some NameKind.local
  co : scope.isCoroutine = false
  nd : (".0" : Str) ∉ X.N
  g : ∀ (s : Shared) (H : Hp) (C : Addr) (cl : List (Str × Addr)) (code : Value) (fp : List Addr), VGt (GX.gcx X s H (genEnv scope cl C code builtinsNs X.env) fp (GX.gA X.A (genEnv scope cl C code builtinsNs X.env))) c ss tg g (vGm gm)
  e : ∀ (s : Shared) (H : Hp) (C : Addr) (cl : List (Str × Addr)) (code : Value) (fp : List Addr), VE (GX.gcx X s H (genEnv scope cl C code builtinsNs X.env) fp (GX.gA X.A (genEnv scope cl C code builtinsNs X.env))) c W0 elt te (vR el)
theorem GBlk.sim {isAll : Bool} {P : Addr} {scope : Scope} {own : List (Str × Nat)} {ss : List Nat} {tg elt iter : Expr} {g : TG} {gm : GM} {te : TE} {el : ME} {wi : TI} {it : MI} (B : GBlk X c scope own ss tg elt g gm te el) (hP : P ∈ c.T ∧ CM.lq.lookup P = none) (hi : FI X c Wx tg iter wi it) :
    SimE X.K c Wx (GX.tAG isAll P wi g te (own.map (·.2))) (vR (mAG isAll c.fx it gm el (own.map (·.2)))) :=
  sim_ag hP B.sub hi.sim (B.g {} (fun _ => none) 0 [] .none []).sim (B.e {} (fun _ => none) 0 [] .none []).sim
theorem fe_allG {cA P : Addr} {k : Nat} {vs : List Nat} {scope : Scope} {own : List (Str × Nat)} {ss : List Nat} {tg elt iter : Expr} {g : TG} {gm : GM} {te : TE} {el : ME} {wi : TI} {it : MI} {p pos gpos : Pos} (hr : Room k X.A) (hm : X.mg "all" = none) (TB : GxR.TabB X.base X.mg cA P) (hcode : X.env.code = .ref cA) (hP : P ∈ c.T ∧ CM.lq.lookup P = none) (nd : X.N.Nodup)
    (hi : FI X c Wx tg iter wi it) (B : GBlk X c scope own ss tg elt g gm te el) (hc : X.calm = true := by rfl) (hg : Gl X "all" := by rfl) (hs : ∀ v, genFold iter X.env v = pure v := by intro _; rfl)
    (he : starEach [.GeneratorExp elt [⟨tg, iter, [], 0⟩] scope gpos] X.env = (false, eval (.GeneratorExp elt [⟨tg, iter, [], 0⟩] scope gpos) X.env) :: starEach [] X.env := by rfl) (hvs : own.map (·.2) = vs := by rfl) :
    FE X c Wx (.Call (.Name "all" p) [.GeneratorExp elt [⟨tg, iter, [], 0⟩] scope gpos] [] pos) (GX.tAG true P wi g te (own.map (·.2))) (mAG true c.fx it gm el vs) := by
  subst hvs
  exact ⟨GX.pe_allG hr hc hg hm TB hcode B.ok B.cell B.dot B.co nd B.nd hi.pi (fun s H C cl code fp => (B.g s H C cl code fp).pg) (fun s H C cl code fp => (B.e s H C cl code fp).pe) hs he, B.sim hP hi⟩
end
@[simp] def toV : D → V
  | .int i => .int i
  | .str x => .str x
  | _ => .non
theorem glob_tup {K : PySem.W.Frag} {mg : Str → Option Value} {x : Str} {a : Addr} {n : Nat} {sl : Array (Option Value)} {its : Array Value} (ds : List D) (h : mg x = some (.ref a)) (l : K.lookup a = some ⟨.type "tuple", none, .seq its n, sl⟩) (hz : ∀ d ∈ ds, (∃ i, d = .int i) ∨ ∃ s, d = .str s) (hs : its.size ≤ sizeLine) (hv : Vals (ds.map toV) its.toList) : GlobK K mg x (.tup ds) (.ref a) :=
  ⟨⟨_, h, rfl⟩, fun H => .tup (vs := ds.map toV) ⟨.inr ⟨_, _, _, l, rfl, rfl, hs, hv⟩, .inr ⟨_, l, rfl⟩⟩ (by
    clear hv
    induction ds with
    | nil => exact .nil
    | cons d ds ih =>
      refine .cons ?_ (ih fun d hd => hz d (List.mem_cons_of_mem _ hd))
      rcases hz d (List.mem_cons_self ..) with ⟨i, rfl⟩ | ⟨s, rfl⟩
      · exact .int i
      · exact .str s)⟩
theorem Callee.none0 {P : Program} {w : World} {K : PySem.W.Frag} {mg : Str → Option Value} {base : Heap} {T : List Addr} {x : Str} {st : Stmt} {k : Nat} {ps : List Str} {f : Addr} {fd : FuncData} {Fn : FN} (F : FunB K mg x st ps f fd) (hF : ∀ ms, Fn ms = .no := by intro _; rfl) : Callee P w K mg base T x k ps (spF Fn) f fd := by
  have no : ∀ {vs H Q E}, spOf K T (spF Fn) vs H Q E → False := fun h => by
    obtain ⟨_, _, _, _, _, h, _⟩ := h
    unfold spF at h
    rw [hF] at h
    exact h
  exact ⟨⟨fun vs H Q E h => (no h).elim, fun A outer s H args us vs Q E _ _ _ _ h => (no h).elim⟩, F.g, F.b, F.F.kp⟩
structure FunG (K : PySem.W.Frag) (mg : Str → Option Value) (x : Str) (st : Stmt) (ps : List Str) (f : Addr) (fd : FuncData) (cA : Addr) : Prop where
  F : FunC K (fun v => v = .ref cA) x x st f fd
  g : mg x = some (.ref f)
  b : Binds K fd ps []
  kp : PySem.W.keepIn K (.ref f) = true
section
variable {P : Program} {w : World} {K : PySem.W.Frag} {mg : Str → Option Value} {base : Heap}
theorem spF_ok {F : FN} {np n : Nat} {fx : List Nat} {m : MS} (hF : F = fnM np n fx m) {ms : List M} {A : W → List M → Prop} {B : Str → List (Str × D) → List M → Prop} (h : spF F ms A B) : (ms.length = np ∧ ∀ i oc, ms[i]? = some (.own oc) → i ∈ fx) ∧ vS m (endsOf ms A B) (start0 n ms) := by
  subst hF
  have h1 : (ms.length == np && modeB fx ms 0) = true := by
    unfold spF at h
    simp only [fnM] at h
    cases hb : (ms.length == np && modeB fx ms 0) with
    | true => rfl
    | false => rw [hb] at h; exact h.elim
  refine ⟨?_, ?_⟩
  · simp only [Bool.and_eq_true, beq_iff_eq] at h1
    exact hl0 h1.1 (modeB_of h1.2)
  · unfold spF at h
    simp only [fnM] at h
    rw [h1] at h
    show (m (start0 n ms)).po (endsOf ms A B)
    cases hA : m (start0 n ms) with
    | nx e =>
      rw [hA] at h
      dsimp only [fn1, fn2] at h
      cases ho : outsOf ms 0 e with
      | none => rw [ho] at h; exact h.elim
      | some os => rw [ho] at h; exact ⟨os, ho, h⟩
    | rt w e =>
      rw [hA] at h
      cases w with
      | val d =>
        dsimp only [fn1, fn2] at h
        cases ho : outsOf ms 0 e with
        | none => rw [ho] at h; exact h.elim
        | some os => rw [ho] at h; exact ⟨os, ho, h⟩
      | tmp d =>
        dsimp only [fn1, fn2] at h
        cases ho : outsOf ms 0 e with
        | none => rw [ho] at h; exact h.elim
        | some os => rw [ho] at h; exact ⟨os, ho, h⟩
      | cel i => exact h.elim
    | ex C fs e =>
      rw [hA] at h
      dsimp only [fn1, fn2] at h
      cases ho : outsOf ms 0 e with
      | none => rw [ho] at h; exact h.elim
      | some os => rw [ho] at h; exact ⟨os, ho, h⟩
    | bk e => rw [hA] at h; exact h.elim
    | ct e => rw [hA] at h; exact h.elim
    | no => rw [hA] at h; exact h.elim
theorem fl_fnG {x : Str} {st : Stmt} {f : Addr} {fd : FuncData} {N ps : List Str} {k : Nat} {T : List Addr} {fx : List Nat} {F : FN} {cA : Addr} (np n : Nat) (m : MS) (hF : F = fnM np n fx m) (FB : FunG K mg x st ps f fd cA) (S : FnScope N ps (defScope st)) (hnp : ps.length = np) (hn : N.length = n)
    (hfx : ∀ i ∈ fx, i < ps.length)
    (hbody : ∀ (cdv : Value), cdv = .ref cA → ∀ (A : Around) (outer : List PySem.Env) (s : Shared) (H : Hp) (E : XK), Room k (A.deeper (envOfC x (defScope st) s.heap.objs.size f cdv)) →
      ∃ ts, FSs (cxOf (L2N.CX P w) P w K mg base N x (defScope st) f cdv A outer s H E) ⟨T, fx, []⟩ (fun cls d _ H => E cls d H) (defBody st) ts m) : Callee P w K mg base T x (k + 1) ps (spF F) f fd := by
  subst hnp hn
  exact ⟨vl_okC (c := ⟨T, fx, []⟩) FB.F S hfx (fun ms A B h => (spF_ok hF h).1) hbody (fun ms A B h => (spF_ok hF h).2), FB.g, FB.b, FB.kp⟩
end
end
end VL
set_option Elab.async false
set_option linter.all false
set_option maxRecDepth 100000
set_option maxHeartbeats 4000000
namespace VL
open PySem PySem.Spec PyProof.Rows L2 LamX
theorem walk_ofTabs {l : PySem.W.OpenLaw} {n k : Nat} {q : Program} {loose : List Str} {XP : (Str → Option Value) → Heap → Prop} {YP : World → Heap → Prop} {d : DefRec} {K : Params → PySem.W.Frag} {CX : World → CXT} {x : Str} (names : List Str)
    (hn : l.most = some n) (hn2 : n ≤ sizeLine) (hdf : d.params.defaults = []) (hr : Room k callerA) (hrec : (names.all fun x => (recsOf q).any fun e => e.name == x) = true) (hY : ∀ (w : World) (h : Heap), YP w h → (K w.params).In h)
    (F : ∀ (w : World) (mg : Str → Option Value) (fa : Addr) (h : Heap), YP w h → (K w.params).In h → h.Ns mainGlobals mg → mg d.name = some (.ref fa) → (∀ y ∈ names, ∀ fb : Addr, mg y = some (.ref fb) → OwnTab (K w.params) fb h) → LawAtS l w (K w.params) (CX w) k n x mg fa h)
    (hCX : ∀ (w : World) (H : Hp) (s : Shared) (e : Value) (s' : Shared), CX w [] H s (fun _ _ _ => False) e s' → False) :
    PySem.W.WalkO q loose XP YP l.row.toRowW d [] (fun f vs => PySem.call f vs) := by
  refine Att.attach_callB hn hdf fun w s₀ s₁ mg mb fa o pm cd doc a vs ns G Y ho hd hcd hmg hobj hints hlen hbits hg => ?_
  have KX := hY w _ Y
  have own : ∀ y ∈ names, ∀ fb : Addr, mg y = some (.ref fb) → OwnTab (K w.params) fb s₁.heap := fun y hy fb hfb c P o1 fd1 e dd vs1 sl k1 k2 k3 k4 k5 => by
    obtain ⟨dL, hm, hn1⟩ := List.any_eq_true.mp (List.all_eq_true.mp hrec y hy)
    have hn2 : dL.name = y := beq_iff_eq.mp hn1
    obtain ⟨a', o', fd', c', P', h1, h2, h3, h4, h5, h6⟩ := G.T.tab dL hm
    rw [hn2, hfb] at h1
    cases h1
    have g1 := KX _ _ k1
    rw [g1] at h2
    cases h2
    rw [k2] at h3
    cases h3
    rw [k3] at h4
    cases h4
    obtain ⟨⟨oc, vc, e1, _, e3, e4⟩, hP⟩ := h6
    have g2 := KX _ _ k4
    rw [g2] at e1
    cases e1
    cases e3
    rw [k5] at e4
    cases e4
    exact hP
  obtain ⟨fd, cs, sp, hT, nT, C, hb, hsp, hF⟩ := F w mg fa _ Y KX G.T.g hmg own
  exact law_callTs KX G.T.g G.T.b G.T.builtins G.T.nolimit hg hT nT C G.T.bmain hobj hints (Nat.le_trans hlen hn2) hr hF hb (fun H hH hS => hsp H a ns hlen hbits hH hS) fun H e s' => hCX w H s₁ e s'
structure TabK (K : PySem.W.Frag) (h : Heap) (c P : Addr) : Prop where
  tab : h.get? P = some { cls := .none, data := .fields #[] }
  nil : K.lookup P = none
  hd : PySem.W.CodeHd h c P
theorem tabK_of {K : PySem.W.Frag} {h : Heap} {mg : Str → Option Value} {x : Str} {fa c P : Addr} {o : Obj} {fd : FuncData} {e : Value} {dd : Option Addr} {vs : Array Value} {sl : Array (Option Value)} (KX : K.In h) (own : ∀ fb : Addr, mg x = some (.ref fb) → OwnTab K fb h) (hm : mg x = some (.ref fa)) (k1 : K.lookup fa = some o) (k2 : o.data = .func fd) (k3 : fd.code = .ref c)
    (k4 : K.lookup c = some ⟨e, dd, .fields vs, sl⟩) (k5 : vs[11]? = some (.ref P)) (k6 : PySem.W.codeHdIn K c P = true) (k7 : K.lookup P = none) : TabK K h c P :=
  ⟨own fa hm c P o fd e dd vs sl k1 k2 k3 k4 k5, k7, PySem.W.codeHd_of_K KX k6⟩
variable [CM]
theorem law_startT {K : PySem.W.Frag} {H : Hp} {a : Addr} {ns : List Int} {cs : List (Addr × Addr)} {F : FN} (hF : ∃ outs, F [.val (.scr (ns.map D.int))] = .ok (.val (.bl true)) outs) (hH : ∀ p ∈ cs, H p.2 = some (.tbl #[])) (h3 : SqL K H a (ns.map V.int)) : spOf K (cs.map (·.2)) (spF F) [.ref a] H (fun v _ => v = .bl true) fun _ _ _ => False := by
  let Hb : Hp := fun b => if b ∈ cs.map (·.2) then none else H b
  have isT : ∀ b, b ∈ cs.map (·.2) → H b = some (.tbl #[]) := fun b hb => by
    obtain ⟨p, hp, e⟩ := List.mem_map.mp hb
    rw [← e]; exact hH p hp
  have sub : Same Hb H := fun b o e => by
    have e : (if b ∈ cs.map (·.2) then none else H b) = some o := e
    split at e
    · cases e
    · exact e
  have sq : SqL K Hb a (ns.map V.int) := by
    rcases h3 with (h | ⟨o, h⟩) | h
    · refine .inl (.inl ?_)
      have : a ∉ cs.map (·.2) := fun z => by rw [isT a z] at h; cases h
      exact (if_neg this).trans h
    · refine .inl (.inr ⟨o, ?_⟩)
      have : a ∉ cs.map (·.2) := fun z => by rw [isT a z] at h; cases h
      exact (if_neg this).trans h
    · exact .inr h
  obtain ⟨outs, hF⟩ := hF
  refine ⟨Hb, [.val (.scr (ns.map D.int))], fun w _ => w = .val (.bl true), fun _ _ _ => False, ⟨sub, .cons (.scr sq (RpL.ofInts ns)) .nil, List.nodup_nil, fun P hP => ⟨⟨#[], isT P hP, trivial, fun q _ pos cv hc => by have z : codeAmong pos [] = some cv := hc; simp [codeAmong] at z⟩, if_pos hP⟩⟩, ?_, ?_, fun _ _ _ h => h.elim⟩
  · unfold spF
    rw [hF]
  · rintro w outs rfl v H' Hb' _ r
    have r : Rp K Hb' (.bl true) v := r
    cases r
    rfl
omit [CM] in
theorem tbG {base : Heap} {mg : Str → Option Value} {c P : Addr} (q : LamX.TabB base mg c P) : GxR.TabB base mg c P := ⟨q.code, q.bm, q.gP⟩
omit [CM] in
theorem codeHd_mk {K : PySem.W.Frag} {c P : Addr} {o : Obj} (h : K.lookup c = some o) (e : PySem.W.codeHdIn [(c, o)] c P = true) : PySem.W.codeHdIn K c P = true := by
  have e2 : List.lookup c ([(c, o)] : PySem.W.Frag) = some o := by simp [List.lookup]
  unfold PySem.W.codeHdIn at e ⊢
  rw [h]
  rwa [e2] at e
end VL
set_option Elab.async false
set_option linter.all false
set_option maxRecDepth 100000
set_option maxHeartbeats 4000000
namespace VL
open PySem PySem.Spec PyProof.Rows L2
noncomputable def F_law_cell : FN := fnM 2 2 [] (mSeq (mIfS (mTst (mOp fLt (mName 1) (mCB fLen (mCons (mName 0) mNil)))) (mRet [] (mCB fInt (mCons (mOp fIx (mName 0) (mName 1)) mNil))) mNext)
    (mRet [] (mC (.int 0))))
noncomputable def F_law_digits : FN := fnM 2 5 [] (mSeq (mOwn 2 (mLst mNil))
    (mSeq (mIfS (mTst (mOp fLt (mName 0) (mC (.int 0)))) (mSet 0 (mOp fSub (mC (.int 1)) (mOp fMul (mC (.int 2)) (mName 0)))) mNext)
    (mSeq (mKill [0, 3, 4] (mIfS (mTst (mOp fGe (mName 0) (mOp fPow (mC (.int 10)) (mC (.int 18))))) (mKill [0] (mFor (mRng (mCons (mC (.int 60)) mNil)) (gmName 3) (mKill [3] (mIfS (mTst (mOp fGt (mName 0) (mC (.int 0)))) (mSeq (mExpr (mApp (mName 2) (mOp fMod (mCB fInt (mCons (mName 0) mNil)) (mC (.int 1000)))))
    (mSet 0 (mOp fDiv (mName 0) (mC (.int 1000))))) mNext)))) (mSeq (mSet 4 (mOp fMod (mCB fInt (mCons (mOp fAdd (mOp fAdd (mOp fMul (mName 0) (mC (.int 48271))) (mOp fMul (mName 1) (mC (.int 69621)))) (mC (.int 11))) mNil)) (mC (.int 2147483647))))
    (mKill [4] (mFor (mRng (mCons (mC (.int 60)) mNil)) (gmName 3) (mKill [3] (mSeq (mSet 4 (mOp fMod (mCB fInt (mCons (mOp fAdd (mOp fAdd (mOp fMul (mName 4) (mC (.int 16807))) (mOp fMul (mC (.int 7)) (mName 3))) (mC (.int 1))) mNil)) (mC (.int 2147483647))))
    (mExpr (mApp (mName 2) (mOp fMod (mCB fInt (mCons (mOp fDiv (mName 4) (mC (.int 997))) mNil)) (mC (.int 1000))))))))))))
    (mRet [] (mName 2)))))
noncomputable def F_law_draw : FN := fnM 2 3 [0] (mSeq (mSet 2 (mOp fIx (mName 0) (mC (.int 1))))
    (mSeq (mAsg (mOp fAdd (mName 2) (mC (.int 1))) (gmSub (mName 0) (mC (.int 1))))
    (mSeq (mIfS (mTst (mOp fLt (mName 2) (mCB fLen (mCons (mOp fIx (mName 0) (mC (.int 0))) mNil)))) (mRet [0] (mOp fMod (mCB fInt (mCons (mOp fIx (mOp fIx (mName 0) (mC (.int 0))) (mName 2)) mNil)) (mName 1))) mNext)
    (mRet [0] (mC (.int 0))))))
noncomputable def F_law_box : FN := fnM 2 2 [] (mRet [] (mLst (mCons (mCall F_law_digits (mCons (mCall F_law_cell (mCons (mName 0) (mCons (mName 1) mNil))) (mCons (mName 1) mNil))) (mCons (mC (.int 0)) mNil))))
noncomputable def F_law_is_integer : FN := fnM 1 1 [] (mRet [] (mAndV (mIsi .int (mName 0)) (mNotV (mIsi .bool (mName 0)))))
noncomputable def F_law_same_b (R : FN) : FN := fnM 2 3 [] (mSeq (mIfS (mTst (mIsi .tuple (mName 1))) (mSeq (mIfS (mOrT (mNotT (mTst (mIsi .tuple (mName 0)))) (mTst (mOp (fEq true) (mCB fLen (mCons (mName 0) mNil)) (mCB fLen (mCons (mName 1) mNil))))) (mRet [] (mC (.bl false))) mNext)
    (mRet [] (mCB fAll (mCons (mLc [] (mRng (mCons (mCB fLen (mCons (mName 1) mNil)) mNil)) (gmName 2) mYes (mCall R (mCons (mOp fIx (mName 0) (mName 2)) (mCons (mOp fIx (mName 1) (mName 2)) mNil))) [2]) mNil)))) mNext)
    (mSeq (mIfS (mTst (mIsi .bool (mName 1))) (mRet [] (mAndV (mIsi .bool (mName 0)) (mOp (fEq false) (mName 0) (mName 1)))) mNext)
    (mSeq (mIfS (mTst (mIsi .int (mName 1))) (mRet [] (mAndV (mCall F_law_is_integer (mCons (mName 0) mNil)) (mOp (fEq false) (mName 0) (mName 1)))) mNext)
    (mSeq (mIfS (mTst (mIsi .str (mName 1))) (mRet [] (mAndV (mIsi .str (mName 0)) (mOp (fEq false) (mName 0) (mName 1)))) mNext)
    (mRet [] (mAndV (mOp (fIsN false) (mName 0) (mC .non)) (mOp (fIsN false) (mName 1) (mC .non))))))))
noncomputable def F_law_same : Nat → FN
  | 0 => fun _ => .no
  | n + 1 => F_law_same_b (F_law_same n)
variable [CM]
abbrev iD (ns : List Int) : List D := ns.map D.int
def boxD (ds : List Int) (k : Nat) : OC := .lst [.lst (iD ds), .int (k : Int)]
def drawV (ds : List Int) (k : Nat) (m : Int) : Int := if k < ds.length then (ds.getD k 0).fmod m else 0
theorem atI_iD {ns : List Int} {k : Int} (h0 : 0 ≤ k) (h : k < ns.length) : atI (iD ns) k = some (.int (ns.getD k.toNat 0)) := by
  obtain ⟨j, rfl⟩ : ∃ j : Nat, k = j := ⟨k.toNat, by omega⟩
  have hj : j < ns.length := by omega
  refine atI_nat ?_
  rw [List.getElem?_map, List.getElem?_eq_getElem hj]
  simp [hj]
def cellV (ns : List Int) (k : Int) : Int := if k < ns.length then ns.getD k.toNat 0 else 0
theorem law_cell_eq {ns : List Int} {k : Int} (h0 : 0 ≤ k) : F_law_cell [.val (.scr (iD ns)), .val (.int k)] = .ok (.val (.int (cellV ns k))) [.val (.scr (iD ns)), .val (.int k)] := by
  unfold cellV
  by_cases h : k < ns.length
  · simp [F_law_cell, h, atI_iD h0 h]
  · simp [F_law_cell, h]
theorem law_draw_eq {ds : List Int} {k : Nat} {m : Int} (hm : m ≠ 0) : F_law_draw [.own (boxD ds k), .val (.int m)] = .ok (.val (.int (drawV ds k m))) [.own (boxD ds (k + 1)), .val (.int m)] := by
  by_cases h : k < ds.length
  · have h' : (k : Int) < ds.length := by omega
    simp [F_law_draw, boxD, drawV, h, atI_iD (Int.natCast_nonneg k) h', modI_of hm]
  · have h' : ¬ (k : Int) < ds.length := by omega
    simp [F_law_draw, boxD, drawV, h]
theorem draw_ex (ds : List Int) (k : Nat) {m : Int} (hm : 0 < m) : ∃ r : Nat, (r : Int) < m ∧ drawV ds k m = (r : Int) := by
  have h : 0 ≤ drawV ds k m ∧ drawV ds k m < m := by
    unfold drawV
    split
    · exact ⟨Int.fmod_nonneg_of_pos _ hm, Int.fmod_lt_of_pos _ hm⟩
    · exact ⟨Int.le_refl _, hm⟩
  exact ⟨(drawV ds k m).toNat, by omega, by omega⟩
theorem law_digits_ex (c at_ : Int) : ∃ ds : List Int, ds.length ≤ 60 ∧ F_law_digits [.val (.int c), .val (.int at_)] = .ok (.tmp (.lst (iD ds))) [.val (.int c), .val (.int at_)] := by
  have pre : ∃ c' : Int, F_law_digits [.val (.int c), .val (.int at_)] = fn2 [.val (.int c), .val (.int at_)] (seqK (mRet [] (mName 2)) (killS [0, 3, 4] (ifS (mKill [0] (mFor (mRng (mCons (mC (.int 60)) mNil)) (gmName 3) (mKill [3] (mIfS (mTst (mOp fGt (mName 0) (mC (.int 0)))) (mSeq (mExpr (mApp (mName 2) (mOp fMod (mCB fInt (mCons (mName 0) mNil)) (mC (.int 1000)))))
    (mSet 0 (mOp fDiv (mName 0) (mC (.int 1000))))) mNext)))) (mSeq (mSet 4 (mOp fMod (mCB fInt (mCons (mOp fAdd (mOp fAdd (mOp fMul (mName 0) (mC (.int 48271))) (mOp fMul (mName 1) (mC (.int 69621)))) (mC (.int 11))) mNil)) (mC (.int 2147483647))))
    (mKill [4] (mFor (mRng (mCons (mC (.int 60)) mNil)) (gmName 3) (mKill [3] (mSeq (mSet 4 (mOp fMod (mCB fInt (mCons (mOp fAdd (mOp fAdd (mOp fMul (mName 4) (mC (.int 16807))) (mOp fMul (mC (.int 7)) (mName 3))) (mC (.int 1))) mNil)) (mC (.int 2147483647))))
    (mExpr (mApp (mName 2) (mOp fMod (mCB fInt (mCons (mOp fDiv (mName 4) (mC (.int 997))) mNil)) (mC (.int 1000)))))))))) (.ok (decide (1000000000000000000 ≤ c')) [some (.val (.int c')), some (.val (.int at_)), some (.own (.lst [])), none, none])))) := by
    by_cases h : c < 0
    · exact ⟨1 - 2 * c, by simp [F_law_digits, h]⟩
    · exact ⟨c, by simp [F_law_digits, h]⟩
  obtain ⟨c', hc'⟩ := pre
  rw [hc']
  clear hc'
  by_cases h : 1000000000000000000 ≤ c'
  · simp [h, rng1_of]
    generalize hr : loopM _ _ _ _ = r
    obtain ⟨e', rfl, c2, ds, rfl, h3⟩ := loop_at hr (fun r e => ∃ (c : Int) (ds : List Int), e = [some (.val (.int c)), some (.val (.int at_)), some (.own (.lst (iD ds))), none, none] ∧ ds.length + r.length ≤ 60) ⟨c', [], rfl, by simp⟩ (by
      rintro d r e r' ⟨c, ds, rfl, hl⟩ hr'
      simp only [List.length_cons] at hl
      by_cases hc : 0 < c
      · have : ds.length < 16777216 := by omega
        simp [hc, this] at hr'
        subst hr'
        exact ⟨_, .inl rfl, c.fdiv 1000, ds ++ [c.fmod 1000], by simp, by simp; omega⟩
      · simp [hc] at hr'
        subst hr'
        exact ⟨_, .inl rfl, c, ds, rfl, by omega⟩)
    exact ⟨ds, by simpa using h3, by simp⟩
  · simp [h, rng1_of, modI_of]
    generalize hr : loopM _ _ _ _ = r
    obtain ⟨e', rfl, c2, ds, is, rfl, _, h3⟩ := loop_at hr (fun r e => ∃ (c : Int) (ds is : List Int), e = [some (.val (.int c')), some (.val (.int at_)), some (.own (.lst (iD ds))), none, some (.val (.int c))] ∧ r = iD is ∧ ds.length + r.length ≤ 60) ⟨_, [], (List.range 60).map fun k : Nat => (k : Int), rfl, by simp, by simp⟩ (by
      rintro d r e r' ⟨c, ds, is, rfl, hi, hl⟩ hr'
      cases is with
      | nil => cases hi
      | cons i is =>
        cases hi
        simp only [List.length_cons, List.length_map] at hl
        have : ds.length < 16777216 := by omega
        simp [this] at hr'
        subst hr'
        exact ⟨_, .inl rfl, _, ds ++ [_], is, by simp; exact ⟨rfl, rfl⟩, rfl, by simp; omega⟩)
    exact ⟨ds, by simpa using h3, by simp⟩
theorem law_box_ex (ns : List Int) {k : Int} (h : 0 ≤ k) : ∃ ds : List Int, ds.length ≤ 60 ∧ F_law_box [.val (.scr (iD ns)), .val (.int k)] = .ok (.tmp (boxD ds 0)) [.val (.scr (iD ns)), .val (.int k)] := by
  obtain ⟨ds, h1, h2⟩ := law_digits_ex (cellV ns k) k
  refine ⟨ds, h1, ?_⟩
  simp [F_law_box, law_cell_eq h, h2, boxD]
def dueOk : Nat → D → Prop
  | _, .int _ => True
  | _, .bl _ => True
  | _, .str _ => True
  | _, .non => True
  | n + 1, .tup ds => ds.length ≤ 1000 ∧ ∀ d ∈ ds, dueOk n d
  | _, _ => False
theorem same_eq (n : Nat) : ∀ d : D, dueOk n d → F_law_same (n + 1) [.val d, .val d] = .ok (.val (.bl true)) [.val d, .val d] := by
  induction n with
  | zero =>
    intro d h
    show F_law_same_b (F_law_same 0) _ = _
    cases d with
    | int i => simp [F_law_same_b, F_law_is_integer]
    | bl b => simp [F_law_same_b]
    | str b => simp [F_law_same_b]
    | non => simp [F_law_same_b]
    | _ => exact h.elim
  | succ n ih =>
    intro d h
    show F_law_same_b (F_law_same (n + 1)) _ = _
    generalize F_law_same (n + 1) = F at ih
    cases d with
    | int i => simp [F_law_same_b, F_law_is_integer]
    | bl b => simp [F_law_same_b]
    | str b => simp [F_law_same_b]
    | non => simp [F_law_same_b]
    | tup ds =>
      have hl : ds.length ≤ 1000 := h.1
      have ih : ∀ d ∈ ds, F [.val d, .val d] = .ok (.val (.bl true)) [.val d, .val d] := fun d hd => ih d (h.2 d hd)
      have hz : ds.length < 4611686018427387904 := by omega
      simp [F_law_same_b, hz]
      rw [comp_map (en := fun k : Nat => D.int k) (f := fun _ => D.bl true)]
      · simp
        have hz2 : ds.length ≤ 16777216 := by omega
        have e : List.map (fun _ => D.bl true) (List.range ds.length) = (List.replicate ds.length true).map D.bl := by
          rw [List.map_replicate]
          exact List.eq_replicate_iff.mpr ⟨by simp, by simp⟩
        rw [e]
        simp [hz2, -List.map_replicate]
      · intro k hk
        have hk : k < ds.length := by simpa using hk
        have ea : atI ds (k : Int) = some ds[k] := atI_nat (List.getElem?_eq_getElem hk)
        simp [ea, ih _ (List.getElem_mem hk)]
    | _ => exact h.elim
end VL
set_option Elab.async false
set_option linter.all false
set_option maxRecDepth 100000
set_option maxHeartbeats 4000000
namespace VL
open PySem PySem.Spec PyProof.Rows L2
variable [CM]
def lettersL : List Nat := [97, 98, 99, 100, 101, 102, 103, 104, 105, 106, 107, 108, 109, 110, 111, 112, 113, 114, 115, 116, 117, 118, 119, 120, 121, 122]
theorem letters_tx : Str.ofString "abcdefghijklmnopqrstuvwxyz" = tx lettersL := by decide +kernel
def wSum : List Nat := [115, 117, 109]
def wWhere : List Nat := [119, 104, 101, 114, 101]
def wIn : List Nat := [105, 110]
def wAnd : List Nat := [97, 110, 100]
theorem sum_tx : Str.ofString "sum" = tx wSum := by decide +kernel
theorem where_tx : Str.ofString "where" = tx wWhere := by decide +kernel
theorem in_tx : Str.ofString "in" = tx wIn := by decide +kernel
theorem and_tx : Str.ofString "and" = tx wAnd := by decide +kernel
theorem hasS_tx (a : List Nat) (n : Nat) : hasS (tx a) (tx [n]) = decide (n ∈ a) := by
  have := hasS_one (tx a) n
  rwa [tx_list] at this
def isWord (l : List Nat) : Bool := decide (1 ≤ l.length) && decide (l.length ≤ 8) && !(decide (l = wSum) || decide (l = wWhere) || decide (l = wIn) || decide (l = wAnd)) && l.all fun n => decide (n ∈ lettersL)
end VL
set_option Elab.async false
set_option linter.all false
set_option maxRecDepth 100000
set_option maxHeartbeats 4000000
namespace VL
open PySem PySem.Spec PyProof.Rows L2
variable [CM]
section
variable {X : Cx} {CX : CXT} {k : Nat} {f C : Addr} {fd : FuncData} {ps : List Str} {sp : Sp} {E : L2.St → XK} {x m : Str} {p pos apos : Pos} {e o : Expr} {es : List Expr} {ta : TE} {t : TA}
def tMethSD (C : Addr) (m : Str) (sp : Sp) (E : L2.St → XK) (ta : TE) (t : TA) : TE := fun σ H Q => ta σ H fun x H1 => ∃ a dx fs, x = .ref a ∧ H1 a = some (.ins C dx fs) ∧ fs.lookup m = none ∧
  t σ H1 fun vs H2 => sp (x :: vs) H2 Q (E σ)
omit [CM] in
theorem pe_methSD {pl : Sem Bool} (he : PE X o ta) (c : Cls X.K C) (hm : Meth X.K C m f) (F : FnOk X.prog X.w X.K X.mg X.base CX k f fd ps sp) (hr : Room k X.A) (hb : Binds X.K fd ps []) (hx : ∀ σ, PassesAt CX X σ (E σ)) (ha : PA X (e :: es) t)
    (hst : starEach (e :: es) X.env = (false, eval e X.env) :: starEach es X.env := by rfl) (hpl : (backTo pos (starEach es X.env)).any (·.1) = false := by rfl)
    (ht : eval (.Call (.Attribute o m apos) (e :: es) [] pos) X.env = (do
      let ov ← eval o X.env
      standAt apos.atName
      let (f, first) ← holding [ov] (getMethod ov m pl)
      callWith pos f first (backTo pos (starEach (e :: es) X.env)) (backToKw pos (keywordEach [] X.env))) := by rfl) :
    PE X (.Call (.Attribute o m apos) (e :: es) [] pos) (tMethSD C m sp E ta t) := by
  refine ⟨fun pins s σ H Q I h => ?_⟩
  refine PySem.W.methodCall_KW (pl := pl) (thn (he.run pins s σ H _ I h) fun u s1 ⟨x, H1, I1, rx, a, dx, fs, ex, ea, l, q⟩ => ?_) ht
  subst ex
  obtain rfl : u = Value.ref a := rx
  refine getmeth_ok I1 ea c hm l ?_
  refine PySem.W.callWith_K (first := [.ref a]) (h₀ := X.base) I.ok.mod.kin hm.kp (thn (ha.run pos pins s1 σ H1 _ I1 q) fun us s2 ⟨vs, H2, I2, r, q2⟩ => ⟨I2.kIn, ?_⟩) hst hpl
  exact run_fnS (us := .ref a :: us) (vs := .ref a :: vs) F hr hb (hx σ) I2 (.cons rfl r) q2
omit [CM] in
theorem pe_methSD0 {pl : Sem Bool} (he : PE X o ta) (c : Cls X.K C) (hm : Meth X.K C m f) (F : FnOk X.prog X.w X.K X.mg X.base CX k f fd ps sp) (hr : Room k X.A) (hb : Binds X.K fd ps []) (hx : ∀ σ, PassesAt CX X σ (E σ))
    (ht : eval (.Call (.Attribute o m apos) [] [] pos) X.env = (do
      let ov ← eval o X.env
      standAt apos.atName
      let (f, first) ← holding [ov] (getMethod ov m pl)
      callWith pos f first (backTo pos (starEach [] X.env)) (backToKw pos (keywordEach [] X.env))) := by rfl) :
    PE X (.Call (.Attribute o m apos) [] [] pos) (tMethSD C m sp E ta tNil) := by
  refine ⟨fun pins s σ H Q I h => ?_⟩
  refine PySem.W.methodCall_KW (pl := pl) (thn (he.run pins s σ H _ I h) fun u s1 ⟨x, H1, I1, rx, a, dx, fs, ex, ea, l, q⟩ => ?_) ht
  subst ex
  obtain rfl : u = Value.ref a := rx
  refine getmeth_ok I1 ea c hm l ?_
  exact PySem.W.callWith_K0 (first := [.ref a]) I1.kIn hm.kp (run_fnS (us := [.ref a]) (vs := [.ref a]) F hr hb (hx σ) I1 (.cons rfl .nil) q)
def tMakeSD (C : Addr) (sp : Sp) (E : L2.St → XK) (t : TA) : TE := fun σ H Q => t σ H fun vs H1 => ∀ x dx, H1 x = none → H1 dx = none → dx ≠ x →
  sp (.ref x :: vs) (upd (upd H1 dx (.own x)) x (.ins C dx [])) (fun v H2 => v = .non ∧ Q (.ref x) H2) (E σ)
omit [CM] in
theorem run_makeS {pins : List (Addr × Obj)} {σ : L2.St} {H : Hp} {s : Shared} {Q : VK} {us : List Value} {vs : List V} (M : Mk X.K C f) (F : FnOk X.prog X.w X.K X.mg X.base CX k f fd ps sp) (hr : Room (k + 1) X.A) (hb : Binds X.K fd ps [])
    (hx : PassesAt CX X σ (E σ)) (I : Inv X pins σ H s) (r : Vals vs us)
    (h : ∀ x dx, H x = none → H dx = none → dx ≠ x → sp (.ref x :: vs) (upd (upd H dx (.own x)) x (.ins C dx [])) (fun v H2 => v = .non ∧ Q (.ref x) H2) (E σ)) :
    wpAny (model X.prog X.w) X.A (call (.ref C) us) (EP X pins σ Q) X.xe s := by
  have hq := h (s.heap.objs.size + 1) s.heap.objs.size (I.hok.fresh (Nat.le_succ _)) (I.hok.fresh (Nat.le_refl _)) (Nat.ne_of_lt (Nat.lt_succ_self _))
  have I2 := Inv.made (C := C) I
  have r2 : Vals (V.ref (s.heap.objs.size + 1) :: vs) (Value.ref (s.heap.objs.size + 1) :: us) := .cons rfl r
  have hl : (Value.ref (s.heap.objs.size + 1) :: us).length = ps.length := by
    rw [← r2.length]; exact F.len _ _ _ _ hq
  have b := hb _ (Value.ref (s.heap.objs.size + 1) :: us) I2.kIn (by rw [List.append_nil]; exact hl)
  rw [List.append_nil] at b
  refine wpAny_call (make_map (f := f) I.kIn M.makes M.init (beq_iff_eq.mp M.fn) (codeAny_mono (F.run _ X.stack _ _ ⟨Value.ref (s.heap.objs.size + 1) :: us, []⟩ (Value.ref (s.heap.objs.size + 1) :: us) _ _ (E σ) (hr.make C us [])
    (I2.env0.make C us []) b r2 hq) fun r s' hq' => ?_))
  cases r with
  | error e => exact hx pins _ _ e s' I2 hq'
  | ok fl =>
    cases fl with
    | ret u =>
      obtain ⟨v, H', I3, rv, ev, q3⟩ := I2.after hq'
      subst ev
      exact ⟨rv, ⟨V.ref (s.heap.objs.size + 1), H', I3, rfl, q3⟩⟩
    | next => exact False.elim hq'
    | brk => exact False.elim hq'
    | cont => exact False.elim hq'
omit [CM] in
theorem pe_makeSD (M : Mk X.K C f) (F : FnOk X.prog X.w X.K X.mg X.base CX k f fd ps sp) (hr : Room (k + 1) X.A) (hg : Gl X x) (hm : X.mg x = some (.ref C)) (hb : Binds X.K fd ps []) (hx : ∀ σ, PassesAt CX X σ (E σ))
    (ha : PA X (e :: es) t) (hdb : (x == ("__debug__" : Str)) = false := by decide) (he : starEach (e :: es) X.env = (false, eval e X.env) :: starEach es X.env := by rfl) (hpl : (backTo pos (starEach es X.env)).any (·.1) = false := by rfl) :
    PE X (.Call (.Name x p) (e :: es) [] pos) (tMakeSD C sp E t) := by
  refine ⟨fun pins s σ H Q I h => ?_⟩
  refine wpAny_Call_Name_kw (ld_glob I hg hm ?_ hdb)
  refine PySem.W.callWith_K (h₀ := X.base) I.ok.mod.kin M.kp (thn (ha.run pos pins s σ H _ I h) fun us s1 ⟨vs, H1, I1, r, q⟩ => ⟨I1.kIn, ?_⟩) he hpl
  exact run_makeS M F hr hb (hx σ) I1 r q
end
section
variable {K : PySem.W.Frag} {c : VC} {Wx : WX} {X : Cx}
def insD (C m : Str) (k : Prop) (d : D) : Prop := match d with
  | .obj C' fs => C' = C ∧ fs.lookup m = none ∧ k
  | _ => False
def vMeth (sp : VSp) (C m : Str) (v0 : VT) (v : VTA) : VT := fun env Q QX => v0 env (fun w env1 => rd w env1 (insD C m (v env1 (fun ws env2 => argMs (fzv w :: ws) env2 fun ms => (cels (fzv w :: ws) env2).Nodup ∧ sp ms (fun w' outs => Q w' (wb env2 (fzv w :: ws) outs)) fun C fs outs => QX C fs (wb env2 (fzv w :: ws) outs)) QX))) QX
structure MCallee (P : Program) (w : World) (K : PySem.W.Frag) (mg : Str → Option Value) (base : Heap) (T : List Addr) (C m : Str) (k : Nat) (ps : List Str) (sp : VSp) (f : Addr) (fd : FuncData) : Prop where
  ok : FnOk P w K mg base (L2N.CX P w) k f fd ps (spOf K T sp)
  cl : Cls K (CM.at_ C)
  me : Meth K (CM.at_ C) m f
  b : Binds K fd ps []
theorem MCallee.mono {P : Program} {w : World} {K : PySem.W.Frag} {mg : Str → Option Value} {base : Heap} {T : List Addr} {C m : Str} {j k : Nat} {ps : List Str} {sp : VSp} {f : Addr} {fd : FuncData} (M : MCallee P w K mg base T C m j ps sp f fd) (h : j ≤ k) : MCallee P w K mg base T C m k ps sp f fd := ⟨M.ok.mono h, M.cl, M.me, M.b⟩
theorem ve_methA {C m : Str} {k : Nat} {ps : List Str} {sp : VSp} {fa : Addr} {fd : FuncData} {te : TE} {v0 : VT} {t : TA} {v : VTA} (h0 : SimE X.K c Wx te v0) (ha : SimA X.K c Wx t v) : SimE X.K c Wx (tMethSD (CM.at_ C) m (spOf X.K c.T sp) (WE Wx) te t) (vMeth sp C m v0 v) := by
  refine fun f Hb env σ H Q QX Q' R q px k => ?_
  refine h0 f Hb env σ H _ QX _ R q px fun w1 env1 v1 H1 Hb1 s1 R1 r1 q1 => ?_
  obtain ⟨d, e1, q1⟩ := rd_of q1
  have rr := R1.rd r1 e1
  unfold insD at q1
  split at q1
  · obtain ⟨rfl, hl, q1⟩ := q1
    cases rr with
    | obj g1 g2 =>
      obtain ⟨Hb1', s1', R1', r1'⟩ := R1.fzv r1
      refine ⟨_, _, _, rfl, g1, g2.none hl, ?_⟩
      refine ha f Hb1' env1 σ H1 _ QX _ R1' q1 (px.mn (s1.trans s1')) fun ws env2 vs H2 Hb2 s2 R2 r2 q2 => ?_
      exact sp_run R2 (.cons (r1'.mn s2) r2) q2 (px.mn ((s1.trans s1').trans s2)) fun w env' v H' Hb' s3 R3 rw q3 => k w env' v H' Hb' (((s1.trans s1').trans s2).trans s3) R3 rw q3
  · exact q1.elim
theorem ve_meth {pl : Sem Bool} {C m : Str} {k : Nat} {ps : List Str} {sp : VSp} {fa : Addr} {fd : FuncData} {apos pos : Pos} {o e : Expr} {es : List Expr} {te : TE} {v0 : VT} {t : TA} {v : VTA} (M : MCallee X.prog X.w X.K X.mg X.base c.T C m k ps sp fa fd) (hr : Room k X.A) (hx : L2N.Takes X Wx)
    (h0 : VE X c Wx o te v0) (ha : VA X c Wx (e :: es) t v) (hst : starEach (e :: es) X.env = (false, eval e X.env) :: starEach es X.env := by rfl) (hpl : (backTo pos (starEach es X.env)).any (·.1) = false := by rfl)
    (ht : eval (.Call (.Attribute o m apos) (e :: es) [] pos) X.env = (do
      let ov ← eval o X.env
      standAt apos.atName
      let (f, first) ← holding [ov] (getMethod ov m pl)
      callWith pos f first (backTo pos (starEach (e :: es) X.env)) (backToKw pos (keywordEach [] X.env))) := by rfl) :
    VE X c Wx (.Call (.Attribute o m apos) (e :: es) [] pos) (tMethSD (CM.at_ C) m (spOf X.K c.T sp) (WE Wx) te t) (vMeth sp C m v0 v) :=
  ⟨pe_methSD (pl := pl) h0.pe M.cl M.me M.ok hr M.b (fun σ => L2N.passAt hx σ) ha.pa hst hpl ht, ve_methA (k := k) (ps := ps) (fa := fa) (fd := fd) h0.sim ha.sim⟩
theorem ve_meth0 {pl : Sem Bool} {C m : Str} {k : Nat} {ps : List Str} {sp : VSp} {fa : Addr} {fd : FuncData} {apos pos : Pos} {o : Expr} {te : TE} {v0 : VT} (M : MCallee X.prog X.w X.K X.mg X.base c.T C m k ps sp fa fd) (hr : Room k X.A) (hx : L2N.Takes X Wx)
    (h0 : VE X c Wx o te v0)
    (ht : eval (.Call (.Attribute o m apos) [] [] pos) X.env = (do
      let ov ← eval o X.env
      standAt apos.atName
      let (f, first) ← holding [ov] (getMethod ov m pl)
      callWith pos f first (backTo pos (starEach [] X.env)) (backToKw pos (keywordEach [] X.env))) := by rfl) :
    VE X c Wx (.Call (.Attribute o m apos) [] [] pos) (tMethSD (CM.at_ C) m (spOf X.K c.T sp) (WE Wx) te tNil) (vMeth sp C m v0 vNil) :=
  ⟨pe_methSD0 (pl := pl) h0.pe M.cl M.me M.ok hr M.b (fun σ => L2N.passAt hx σ) ht, ve_methA (k := k) (ps := ps) (fa := fa) (fd := fd) h0.sim (va_nil (X := X) (Wx := Wx)).sim⟩
def mkO (k : OC → List M → Prop) : List M → Prop
  | .own oc :: os => k oc os
  | _ => False
def vMake (sp : VSp) (C : Str) (v : VTA) : VT := fun env Q QX => v env (fun ws env1 => argMs ws env1 fun ms => (cels ws env1).Nodup ∧ sp (.own (.ins C []) :: ms) (fun w outs => w = .val .non ∧ mkO (fun oc os => Q (.tmp oc) (wb env1 ws os)) outs) fun C fs outs => QX C fs (wb env1 ws outs.tail)) QX
structure CCallee (P : Program) (w : World) (K : PySem.W.Frag) (mg : Str → Option Value) (base : Heap) (T : List Addr) (C : Str) (k : Nat) (ps : List Str) (sp : VSp) (f : Addr) (fd : FuncData) : Prop where
  ok : FnOk P w K mg base (L2N.CX P w) k f fd ps (spOf K T sp)
  g : mg C = some (.ref (CM.at_ C))
  mak : Mk K (CM.at_ C) f
  b : Binds K fd ps []
theorem CCallee.mono {P : Program} {w : World} {K : PySem.W.Frag} {mg : Str → Option Value} {base : Heap} {T : List Addr} {C : Str} {j k : Nat} {ps : List Str} {sp : VSp} {f : Addr} {fd : FuncData} (M : CCallee P w K mg base T C j ps sp f fd) (h : j ≤ k) : CCallee P w K mg base T C k ps sp f fd := ⟨M.ok.mono h, M.g, M.mak, M.b⟩
theorem ve_make {C : Str} {k : Nat} {ps : List Str} {sp : VSp} {fa : Addr} {fd : FuncData} {p pos : Pos} {e : Expr} {es : List Expr} {t : TA} {v : VTA} (M : CCallee X.prog X.w X.K X.mg X.base c.T C k ps sp fa fd) (hr : Room (k + 1) X.A) (hx : L2N.Takes X Wx)
    (ha : VA X c Wx (e :: es) t v) (hg : Gl X C := by rfl) (hdb : (C == ("__debug__" : Str)) = false := by decide) (he : starEach (e :: es) X.env = (false, eval e X.env) :: starEach es X.env := by rfl) (hpl : (backTo pos (starEach es X.env)).any (·.1) = false := by rfl) :
    VE X c Wx (.Call (.Name C p) (e :: es) [] pos) (tMakeSD (CM.at_ C) (spOf X.K c.T sp) (WE Wx) t) (vMake sp C v) := by
  refine ⟨pe_makeSD M.mak M.ok hr hg M.g M.b (fun σ => L2N.passAt hx σ) ha.pa hdb he hpl, fun f Hb env σ H Q QX Q' R q px k => ?_⟩
  refine ha.sim f Hb env σ H _ QX _ R q px fun ws env1 vs H1 Hb1 s1 R1 r1 q1 => ?_
  intro x dx nx nd ne
  obtain ⟨ms, ao, hnd, q1⟩ := R1.argMs r1 q1
  have sH : Same H1 (upd (upd H1 dx (.own x)) x (.ins (CM.at_ C) dx [])) := fun b o e => by
    rw [upd_ne (ne_of_none e nx), upd_ne (ne_of_none e nd)]; exact e
  have nxO : x ∉ owns ms vs := fun z => by
    obtain ⟨o, e⟩ := owns_there ao.rel z
    rw [nx] at e; cases e
  have toP : ∀ {outs : List VL.M} {Hb' H' : Hp}, Post X.K c.T Hb1 (.own (.ins C []) :: ms) (V.ref x :: vs) (upd (upd H1 dx (.own x)) x (.ins (CM.at_ C) dx [])) outs Hb' H' → Post X.K c.T Hb1 ms vs H1 outs.tail Hb' H' ∧ ∃ oc os, outs = .own oc :: os ∧ Hb' x = none ∧ Cont X.K Hb' H' x oc := fun {outs Hb' H'} p => by
    have sh := p.shape
    cases outs with
    | nil => exact False.elim sh
    | cons m os =>
      cases m with
      | val d => exact False.elim sh
      | own oc' =>
        have pa := p.args
        cases pa with
        | cons pa1 pa2 =>
          obtain ⟨a, ea, h1, h2⟩ := pa1
          cases ea
          refine ⟨⟨p.b, p.s, fun b u e h1 h2 => ?_, fun b u e => p.n b u (sH _ _ e), pa2, sh, p.tab⟩, oc', os, rfl, h1, h2⟩
          have nb : b ≠ x := ne_of_none e nx
          refine p.keep b u (sH _ _ e) (fun z => ?_) h2
          have z : b ∈ x :: owns ms vs := z
          rcases List.mem_cons.mp z with z | z
          · exact nb z
          · exact h1 z
  refine ⟨Hb1, .own (.ins C []) :: ms, _, _, ⟨fun b o e => sH _ _ (R1.sub _ _ e), .cons ⟨x, rfl, R1.sub.free nx, dx, [], upd_same, .nil⟩ (MRs.mn ao.rel sH), List.nodup_cons.mpr ⟨nxO, ao.nd hnd⟩, fun P hP => ?_⟩, q1, fun w outs qw v H' Hb' p ro => ?_, fun C fs outs qx d H' Hb' p xr => ?_⟩
  · obtain ⟨⟨pp, e, z⟩, t2, _⟩ := R1.tab P hP
    exact ⟨⟨pp, sH _ _ e, z⟩, t2⟩
  · obtain ⟨p', oc, os, rfl, hb, hc⟩ := toP p
    obtain ⟨rfl, qw⟩ := qw
    cases ro
    have R5 := R1.post ao p'
    exact ⟨rfl, k (.tmp oc) _ _ H' Hb' (s1.trans p'.b) R5 (ro_rw R1 R5 (wb_own ao p'.shape) ⟨x, rfl, hb, nx, hc⟩) qw⟩
  · obtain ⟨p', oc, os, rfl, hb, hc⟩ := toP p
    exact px C fs _ d H' Hb' (s1.trans p'.b) (R1.post ao p') xr qx
end
end VL
set_option Elab.async false
set_option linter.all false
set_option maxRecDepth 100000
set_option maxHeartbeats 4000000
namespace VL
noncomputable section
open PySem PySem.Spec PyProof.Rows L2
theorem ofS_inj {a b : String} (h : Str.ofString a = Str.ofString b) : a = b := by
  rw [Str.ofString_eq_toList, Str.ofString_eq_toList] at h
  have h : (a.toList.map Char.toNat).toArray = (b.toList.map Char.toNat).toArray := congrArg Str.cps h
  have h : a.toList.map Char.toNat = b.toList.map Char.toNat := congrArg Array.toList h
  have inj : ∀ {l m : List Char}, l.map Char.toNat = m.map Char.toNat → l = m := by
    intro l
    induction l with
    | nil => intro m h; cases m with | nil => rfl | cons _ _ => cases h
    | cons x l ih =>
      intro m h
      cases m with
      | nil => cases h
      | cons y m =>
        simp only [List.map_cons, List.cons.injEq] at h
        have : x = y := Char.ext (UInt32.toNat_inj.mp h.1)
        rw [this, ih h.2]
  exact String.toList_inj.mp (inj h)
@[simp] theorem ofS_eq (a b : String) : (Str.ofString a = Str.ofString b) = (a = b) := propext ⟨ofS_inj, fun h => by rw [h]⟩
variable [CM]
def lookF (f : Str) : List (Str × D) → Option D
  | [] => none
  | (g, d) :: r => cif (f = g) (some d) (lookF f r)
@[simp] theorem lookF_nil (f : Str) : lookF f [] = none := rfl
@[simp] theorem lookF_hit (f : Str) (d r) : lookF f ((f, d) :: r) = some d := cif_pos rfl
@[simp] theorem lookF_miss {f g : Str} {d r} (h : f ≠ g) : lookF f ((g, d) :: r) = lookF f r := cif_neg h
theorem lookF_eq (f : Str) : ∀ fs : List (Str × D), lookF f fs = fs.lookup f
  | [] => rfl
  | (g, d) :: r => by
    by_cases h : f = g
    · subst h; simp
    · rw [lookF_miss h, lookF_eq f r, List.lookup_cons]
      have : (f == g) = false := beq_eq_false_iff_ne.mpr h
      rw [this]
@[simp] theorem putD_nil (f : Str) (d : D) : putD f d [] = [(f, d)] := rfl
@[simp] theorem putD_hit (f : Str) (d x : D) (r) : putD f d ((f, x) :: r) = (f, d) :: r := if_pos rfl
@[simp] theorem putD_miss {f g : Str} {d x : D} {r} (h : g ≠ f) : putD f d ((g, x) :: r) = (g, x) :: putD f d r := if_neg h
section
variable {K : PySem.W.Frag} {c : VC} {Wx : WX} {X : Cx}
def fldO (C f : Str) : D → Option W
  | .obj C' fs => cif (C' = C) ((lookF f fs).map .val) none
  | _ => none
@[simp] theorem fldO_c1 (C f : Str) (fs) : fldO C f (.obj C fs) = (lookF f fs).map .val := cif_pos rfl
def fld2 (C f : Str) (e : Env) : Option D → R Env W
  | some d => opR e (fldO C f d)
  | none => .no
@[simp] theorem fld2_c1 (C f : Str) (e : Env) (d) : fld2 C f e (some d) = opR e (fldO C f d) := rfl
def fld1 (C f : Str) : R Env W → R Env W
  | .ok w e => fld2 C f e (view w e)
  | .ex C fs s => .ex C fs s
  | .no => .no
@[simp] theorem fld1_c1 (C f : Str) (w e) : fld1 C f (.ok w e) = fld2 C f e (view w e) := rfl
@[simp] theorem fld1_c2 (C f : Str) (C' fs s) : fld1 C f (.ex C' fs s) = .ex C' fs s := rfl
@[simp] theorem fld1_c3 (C f : Str) : fld1 C f .no = .no := rfl
@[simp] def mFld (C f : Str) (m : ME) (e : Env) : R Env W := fld1 C f (m e)
theorem fe_fld {e : Expr} {f : Str} {te : TE} {m : ME} {pos : Pos} {C : Str} (cC : Cls X.K (CM.at_ C)) (nA : NoAttr X.K (CM.at_ C) f) (he : FE X c Wx e te m) (hb : attributeBase e f X.env (eval e X.env) = eval e X.env := by rfl) : FE X c Wx (.Attribute e f pos) (tFld X.K te f) (mFld C f m) := (ve_fld cC nA he hb).weak fun env Q QX h => by
  have h : (fld1 C f (m env)).po Q QX := h
  show (m env).po _ QX
  cases hA : m env with
  | ex C fs s => rw [hA] at h; exact h
  | no => rw [hA] at h; exact h
  | ok w e1 =>
    rw [hA] at h
    have h : (fld2 C f e1 (view w e1)).po Q QX := h
    show rd w e1 _
    unfold rd
    cases hB : view w e1 with
    | none => rw [hB] at h; exact h
    | some d =>
      rw [hB] at h
      have h : (opR e1 (fldO C f d)).po Q QX := h
      show fldD C f d _
      cases d with
      | obj C' fs =>
        have h : (opR e1 (cif (C' = C) ((lookF f fs).map .val) none)).po Q QX := h
        by_cases hc : C' = C
        · rw [cif_pos hc] at h
          refine ⟨hc, ?_⟩
          rw [lookF_eq] at h
          cases hL : fs.lookup f with
          | none => rw [hL] at h; exact h.elim
          | some d' => rw [hL] at h; exact ⟨d', rfl, h⟩
        · rw [cif_neg hc] at h; exact h.elim
      | _ => exact h.elim
def stf3 (C f : Str) (j : Nat) (d : D) (e : Env) : Option (Option M) → SR
  | some (some (.own (.ins C' fs))) => asg2 (cif (C' = C ∧ fs.length < 1000) (some (e.set j (some (.own (.ins C' (putD f d fs)))))) none)
  | _ => .no
@[simp] theorem stf3_c1 (C f : Str) (j : Nat) (d : D) (e : Env) (fs) (h : fs.length < 1000) : stf3 C f j d e (some (some (.own (.ins C fs)))) = .nx (e.set j (some (.own (.ins C (putD f d fs))))) := by
  show asg2 (cif _ _ _) = _
  rw [cif_pos ⟨rfl, h⟩]; rfl
def stf2 (C f : Str) (d : D) : R Env W → SR
  | .ok (.cel j) e => stf3 C f j d e e[j]?
  | .ex C fs s => .ex C fs s
  | _ => .no
@[simp] theorem stf2_c1 (C f : Str) (d : D) (j e) : stf2 C f d (.ok (.cel j) e) = stf3 C f j d e e[j]? := rfl
def stf1 (C f : Str) (o : ME) : R Env D → SR
  | .ok d e => stf2 C f d (o e)
  | .ex C fs s => .ex C fs s
  | .no => .no
@[simp] theorem stf1_c1 (C f : Str) (o : ME) (d e) : stf1 C f o (.ok d e) = stf2 C f d (o e) := rfl
@[simp] theorem stf1_c2 (C f : Str) (o : ME) (C' fs s) : stf1 C f o (.ex C' fs s) = .ex C' fs s := rfl
@[simp] theorem stf1_c3 (C f : Str) (o : ME) : stf1 C f o .no = .no := rfl
@[simp] def mStF (C f : Str) (o m : ME) (e : Env) : SR := stf1 C f o (bd fzM (m e))
theorem fst_fld {o e : Expr} {f : Str} {to te : TE} {mo m : ME} {pos pos' : Pos} {C : Str} (cC : Cls X.K (CM.at_ C)) (nA : NoAttr X.K (CM.at_ C) f) (ho : FE X c Wx o to mo) (he : FE X c Wx e te m) (hs : swapsWith e (some (.Attribute o f pos')) pos.line X.env = pure false := by rfl) :
    FSt X c Wx (.Assign [.Attribute o f pos'] e pos) (sFld X.K to te f) (mStF C f mo m) := (vst_fld cC nA ho he hs).weak fun DV env h => by
  have h : (stf1 C f mo (bd fzM (m env))).po DV := h
  show (m env).po _ DV.ex
  cases hA : m env with
  | ex C fs s => rw [hA] at h; exact h
  | no => rw [hA] at h; exact h
  | ok w e1 =>
    rw [hA] at h
    have h : (stf1 C f mo (fzM w e1)).po DV := h
    show fz w e1 fun d env2 => vR mo env2 (fun w2 env3 => stF C f d w2 env3 DV.nx) DV.ex
    refine po_fz (QX := DV.ex) ?_
    cases hB : fzM w e1 with
    | ex C fs s => rw [hB] at h; exact h
    | no => rw [hB] at h; exact h
    | ok d e2 =>
      rw [hB] at h
      have h : (stf2 C f d (mo e2)).po DV := h
      show (mo e2).po _ DV.ex
      cases hC : mo e2 with
      | ex C fs s => rw [hC] at h; exact h
      | no => rw [hC] at h; exact h
      | ok w2 e3 =>
        rw [hC] at h
        cases w2 with
        | val d => exact h.elim
        | tmp d => exact h.elim
        | cel j =>
          have h : (stf3 C f j d e3 e3[j]?).po DV := h
          show match e3[j]? with | some (some (.own (.ins C' fs))) => _ | _ => False
          generalize hE : e3[j]? = x at h ⊢
          rcases x with _ | _ | d' | ⟨⟩ | ⟨C', fs⟩
          · exact h.elim
          · exact h.elim
          · exact h.elim
          · exact h.elim
          · have h : (asg2 (cif (C' = C ∧ fs.length < 1000) (some (e3.set j (some (.own (.ins C' (putD f d fs)))))) none)).po DV := h
            by_cases hc : C' = C ∧ fs.length < 1000
            · rw [cif_pos hc] at h; exact ⟨hc.1, hc.2, h⟩
            · rw [cif_neg hc] at h; exact h.elim
def cifR (p : Prop) (r : R Env W) : R Env W := cif p r .no
@[simp] theorem cifR_pos {p : Prop} {r : R Env W} (h : p) : cifR p r = r := cif_pos h
def meth2 (F : FN) (C m : Str) (t : MA) (w : W) (e : Env) : Option D → R Env W
  | some (.obj C' fs) => cifR (C' = C ∧ lookF m fs = none) (call1 F (mp (fun ws => fzv w :: ws) (t e)))
  | _ => .no
@[simp] theorem meth2_c1 (F : FN) (C m : Str) (t : MA) (w : W) (e : Env) (fs) (h : lookF m fs = none) : meth2 F C m t w e (some (.obj C fs)) = call1 F (mp (fun ws => fzv w :: ws) (t e)) := cif_pos ⟨rfl, h⟩
def meth1 (F : FN) (C m : Str) (t : MA) : R Env W → R Env W
  | .ok w e => meth2 F C m t w e (view w e)
  | .ex C fs s => .ex C fs s
  | .no => .no
@[simp] theorem meth1_c1 (F : FN) (C m : Str) (t : MA) (w e) : meth1 F C m t (.ok w e) = meth2 F C m t w e (view w e) := rfl
@[simp] theorem meth1_c2 (F : FN) (C m : Str) (t : MA) (C' fs s) : meth1 F C m t (.ex C' fs s) = .ex C' fs s := rfl
@[simp] theorem meth1_c3 (F : FN) (C m : Str) (t : MA) : meth1 F C m t .no = .no := rfl
@[simp] def mMeth (F : FN) (C m : Str) (o : ME) (t : MA) (e : Env) : R Env W := meth1 F C m t (o e)
theorem po_call1 {F : FN} {ws : List W} {e : Env} {Q : VQ} {QX : VX} (h : (call1 F (.ok ws e)).po Q QX) : argMs ws e fun ms => (cels ws e).Nodup ∧ spF F ms (fun w outs => Q w (wb e ws outs)) fun C fs outs => QX C fs (wb e ws outs) := by
  have := po_call (F := F) (t := fun _ => .ok ws e) (env := e) (Q := Q) (QX := QX) h
  exact this
theorem po_meth {F : FN} {C m : Str} {o : ME} {t : MA} {env : Env} {Q : VQ} {QX : VX} (h : vR (mMeth F C m o t) env Q QX) : vMeth (spF F) C m (vR o) (vR t) env Q QX := by
  have h : (meth1 F C m t (o env)).po Q QX := h
  show (o env).po _ QX
  cases hA : o env with
  | ex C fs s => rw [hA] at h; exact h
  | no => rw [hA] at h; exact h
  | ok w e1 =>
    rw [hA] at h
    have h : (meth2 F C m t w e1 (view w e1)).po Q QX := h
    show rd w e1 _
    unfold rd
    cases hB : view w e1 with
    | none => rw [hB] at h; exact h
    | some d =>
      rw [hB] at h
      cases d with
      | obj C' fs =>
        have h : (cif (C' = C ∧ lookF m fs = none) (call1 F (mp (fun ws => fzv w :: ws) (t e1))) .no).po Q QX := h
        by_cases hc : C' = C ∧ lookF m fs = none
        · rw [cif_pos hc] at h
          refine ⟨hc.1, by rw [← lookF_eq]; exact hc.2, ?_⟩
          show (t e1).po _ QX
          cases hT : t e1 with
          | ex C fs s => rw [hT] at h; exact h
          | no => rw [hT] at h; exact h
          | ok ws e2 => rw [hT] at h; exact po_call1 h
        · rw [cif_neg hc] at h; exact h.elim
      | _ => exact h.elim
theorem fe_meth {pl : Sem Bool} {C m : Str} {k : Nat} {ps : List Str} {F : FN} {fa : Addr} {fd : FuncData} {apos pos : Pos} {o e : Expr} {es : List Expr} {te : TE} {mo : ME} {t : TA} {v : MA} (M : MCallee X.prog X.w X.K X.mg X.base c.T C m k ps (spF F) fa fd) (hr : Room k X.A) (hx : L2N.Takes X Wx)
    (h0 : FE X c Wx o te mo) (ha : FA X c Wx (e :: es) t v) (hst : starEach (e :: es) X.env = (false, eval e X.env) :: starEach es X.env := by rfl) (hpl : (backTo pos (starEach es X.env)).any (·.1) = false := by rfl)
    (ht : eval (.Call (.Attribute o m apos) (e :: es) [] pos) X.env = (do
      let ov ← eval o X.env
      standAt apos.atName
      let (f, first) ← holding [ov] (getMethod ov m pl)
      callWith pos f first (backTo pos (starEach (e :: es) X.env)) (backToKw pos (keywordEach [] X.env))) := by rfl) :
    FE X c Wx (.Call (.Attribute o m apos) (e :: es) [] pos) (tMethSD (CM.at_ C) m (spOf X.K c.T (spF F)) (WE Wx) te t) (mMeth F C m mo v) := (ve_meth (pl := pl) M hr hx h0 ha hst hpl ht).weak fun env Q QX h => po_meth h
theorem fe_meth0 {pl : Sem Bool} {C m : Str} {k : Nat} {ps : List Str} {F : FN} {fa : Addr} {fd : FuncData} {apos pos : Pos} {o : Expr} {te : TE} {mo : ME} (M : MCallee X.prog X.w X.K X.mg X.base c.T C m k ps (spF F) fa fd) (hr : Room k X.A) (hx : L2N.Takes X Wx)
    (h0 : FE X c Wx o te mo)
    (ht : eval (.Call (.Attribute o m apos) [] [] pos) X.env = (do
      let ov ← eval o X.env
      standAt apos.atName
      let (f, first) ← holding [ov] (getMethod ov m pl)
      callWith pos f first (backTo pos (starEach [] X.env)) (backToKw pos (keywordEach [] X.env))) := by rfl) :
    FE X c Wx (.Call (.Attribute o m apos) [] [] pos) (tMethSD (CM.at_ C) m (spOf X.K c.T (spF F)) (WE Wx) te tNil) (mMeth F C m mo mNil) := (ve_meth0 (pl := pl) M hr hx h0 ht).weak fun env Q QX h => po_meth h
def make3 (e : Env) (ws : List W) : R (List M) W → R Env W
  | .ok (.val .non) (.own oc :: os) => .ok (.tmp oc) (wbF e ws os)
  | .ex C fs os => .ex C fs (wbF e ws os.tail)
  | _ => .no
@[simp] theorem make3_c1 (e : Env) (ws : List W) (oc os) : make3 e ws (.ok (.val .non) (.own oc :: os)) = .ok (.tmp oc) (wbF e ws os) := rfl
@[simp] theorem make3_c2 (e : Env) (ws : List W) (C fs os) : make3 e ws (.ex C fs os) = .ex C fs (wbF e ws os.tail) := rfl
def make2 (F : FN) (C : Str) (e : Env) (ws : List W) : Bool → Option (List M) → R Env W
  | true, some ms => make3 e ws (F (.own (.ins C []) :: ms))
  | _, _ => .no
@[simp] theorem make2_c1 (F : FN) (C : Str) (e : Env) (ws : List W) (ms) : make2 F C e ws true (some ms) = make3 e ws (F (.own (.ins C []) :: ms)) := rfl
def make1 (F : FN) (C : Str) : R Env (List W) → R Env W
  | .ok ws e => make2 F C e ws (ndB (cels ws e)) (argsF ws e)
  | .ex C fs s => .ex C fs s
  | .no => .no
@[simp] theorem make1_c1 (F : FN) (C : Str) (ws e) : make1 F C (.ok ws e) = make2 F C e ws (ndB (cels ws e)) (argsF ws e) := rfl
@[simp] theorem make1_c2 (F : FN) (C : Str) (C' fs s) : make1 F C (.ex C' fs s) = .ex C' fs s := rfl
@[simp] theorem make1_c3 (F : FN) (C : Str) : make1 F C .no = .no := rfl
@[simp] def mMake (F : FN) (C : Str) (t : MA) (e : Env) : R Env W := make1 F C (t e)
theorem po_make {F : FN} {C : Str} {t : MA} {env : Env} {Q : VQ} {QX : VX} (h : vR (mMake F C t) env Q QX) : vMake (spF F) C (vR t) env Q QX := by
  have h : (make1 F C (t env)).po Q QX := h
  show (t env).po _ QX
  cases hA : t env with
  | ex C fs s => rw [hA] at h; exact h
  | no => rw [hA] at h; exact h
  | ok ws e =>
    rw [hA] at h
    have h : (make2 F C e ws (ndB (cels ws e)) (argsF ws e)).po Q QX := h
    cases h1 : ndB (cels ws e) with
    | false => rw [h1] at h; cases h2 : argsF ws e <;> rw [h2] at h <;> exact h.elim
    | true =>
      cases h2 : argsF ws e with
      | none => rw [h1, h2] at h; exact h.elim
      | some ms =>
        rw [h1, h2] at h
        have h : (make3 e ws (F (.own (.ins C []) :: ms))).po Q QX := h
        refine argMs_of h2 ⟨ndB_of h1, ?_⟩
        unfold spF
        cases hF : F (.own (.ins C []) :: ms) with
        | no => rw [hF] at h; exact h
        | ex C fs os => rw [hF] at h; show QX C fs (wb e ws os.tail); rw [← wbF_eq]; exact h
        | ok w os =>
          rw [hF] at h
          rcases w with d | i | oc
          · cases d with
            | non =>
              rcases os with _ | ⟨m, os⟩
              · exact h.elim
              · cases m with
                | val d => exact h.elim
                | own oc =>
                  refine ⟨rfl, ?_⟩
                  show Q (.tmp oc) (wb e ws os)
                  rw [← wbF_eq]; exact h
            | _ => exact h.elim
          · exact h.elim
          · exact h.elim
theorem fe_make {C : Str} {k : Nat} {ps : List Str} {F : FN} {fa : Addr} {fd : FuncData} {p pos : Pos} {e : Expr} {es : List Expr} {t : TA} {v : MA} (M : CCallee X.prog X.w X.K X.mg X.base c.T C k ps (spF F) fa fd) (hr : Room (k + 1) X.A) (hx : L2N.Takes X Wx)
    (ha : FA X c Wx (e :: es) t v) (hg : Gl X C := by rfl) (hdb : (C == ("__debug__" : Str)) = false := by decide) (he : starEach (e :: es) X.env = (false, eval e X.env) :: starEach es X.env := by rfl) (hpl : (backTo pos (starEach es X.env)).any (·.1) = false := by rfl) :
    FE X c Wx (.Call (.Name C p) (e :: es) [] pos) (tMakeSD (CM.at_ C) (spOf X.K c.T (spF F)) (WE Wx) t) (mMake F C v) := (ve_make M hr hx ha hg hdb he hpl).weak fun env Q QX h => po_make h
end
section
variable {P : Program} {w : World} {K : PySem.W.Frag} {mg : Str → Option Value} {base : Heap}
structure FunM (K : PySem.W.Frag) (C m qual : Str) (st : Stmt) (ps : List Str) (f : Addr) (fd : FuncData) : Prop where
  F : Fun K m qual st f fd
  cl : Cls K (CM.at_ C)
  me : Meth K (CM.at_ C) m f
  b : Binds K fd ps []
structure FunI (K : PySem.W.Frag) (mg : Str → Option Value) (C qual : Str) (st : Stmt) (ps : List Str) (f : Addr) (fd : FuncData) : Prop where
  F : Fun K "__init__" qual st f fd
  cl : Cls K (CM.at_ C)
  g : mg C = some (.ref (CM.at_ C))
  mak : Mk K (CM.at_ C) f
  b : Binds K fd ps []
theorem fn_okF {x qual : Str} {st : Stmt} {f : Addr} {fd : FuncData} {N ps : List Str} {k : Nat} {T : List Addr} {fx : List Nat} {F : FN} (np n : Nat) (m : MS) (hF : F = fnM np n fx m) (FB : Fun K x qual st f fd) (S : FnScope N ps (defScope st)) (hnp : ps.length = np) (hn : N.length = n)
    (hfx : ∀ i ∈ fx, i < ps.length)
    (hbody : ∀ (cdv : Value) (A : Around) (outer : List PySem.Env) (s : Shared) (H : Hp) (E : XK), Room k (A.deeper (envOfC qual (defScope st) s.heap.objs.size f cdv)) →
      ∃ ts, FSs (cxOf (L2N.CX P w) P w K mg base N qual (defScope st) f cdv A outer s H E) ⟨T, fx, []⟩ (fun cls d _ H => E cls d H) (defBody st) ts m) : FnOk P w K mg base (L2N.CX P w) (k + 1) f fd ps (spOf K T (spF F)) := by
  subst hnp hn
  exact vl_ok (c := ⟨T, fx, []⟩) FB S hfx (fun ms A B h => (spF_ok hF h).1) hbody (fun ms A B h => (spF_ok hF h).2)
theorem fl_meth {C m' qual : Str} {st : Stmt} {f : Addr} {fd : FuncData} {N ps : List Str} {k : Nat} {T : List Addr} {fx : List Nat} {F : FN} (np n : Nat) (m : MS) (hF : F = fnM np n fx m) (FB : FunM K C m' qual st ps f fd) (S : FnScope N ps (defScope st)) (hnp : ps.length = np) (hn : N.length = n)
    (hfx : ∀ i ∈ fx, i < ps.length)
    (hbody : ∀ (cdv : Value) (A : Around) (outer : List PySem.Env) (s : Shared) (H : Hp) (E : XK), Room k (A.deeper (envOfC qual (defScope st) s.heap.objs.size f cdv)) →
      ∃ ts, FSs (cxOf (L2N.CX P w) P w K mg base N qual (defScope st) f cdv A outer s H E) ⟨T, fx, []⟩ (fun cls d _ H => E cls d H) (defBody st) ts m) : MCallee P w K mg base T C m' (k + 1) ps (spF F) f fd :=
  ⟨fn_okF np n m hF FB.F S hnp hn hfx hbody, FB.cl, FB.me, FB.b⟩
theorem fl_init {C qual : Str} {st : Stmt} {f : Addr} {fd : FuncData} {N ps : List Str} {k : Nat} {T : List Addr} {fx : List Nat} {F : FN} (np n : Nat) (m : MS) (hF : F = fnM np n fx m) (FB : FunI K mg C qual st ps f fd) (S : FnScope N ps (defScope st)) (hnp : ps.length = np) (hn : N.length = n)
    (hfx : ∀ i ∈ fx, i < ps.length)
    (hbody : ∀ (cdv : Value) (A : Around) (outer : List PySem.Env) (s : Shared) (H : Hp) (E : XK), Room k (A.deeper (envOfC qual (defScope st) s.heap.objs.size f cdv)) →
      ∃ ts, FSs (cxOf (L2N.CX P w) P w K mg base N qual (defScope st) f cdv A outer s H E) ⟨T, fx, []⟩ (fun cls d _ H => E cls d H) (defBody st) ts m) : CCallee P w K mg base T C (k + 1) ps (spF F) f fd :=
  ⟨fn_okF np n m hF FB.F S hnp hn hfx hbody, FB.g, FB.mak, FB.b⟩
end
end
end VL
set_option Elab.async false
set_option linter.all false
set_option maxRecDepth 100000
set_option maxHeartbeats 4000000
namespace VL
noncomputable section
open PySem PySem.Spec PyProof.Rows L2
def leL (a b : List Nat) : Bool := !Spec.ltCps b a
theorem leL_total : ∀ a b : List Nat, (leL a b || leL b a) = true
  | [], [] => rfl
  | [], _ :: _ => rfl
  | _ :: _, [] => rfl
  | a :: r, b :: t => by
    have ih := leL_total r t
    unfold leL at ih ⊢
    simp only [Spec.ltCps, Bool.or_eq_true, Bool.not_eq_true', Bool.or_eq_false_iff, Bool.and_eq_false_iff, decide_eq_false_iff_not, beq_eq_false_iff_ne] at ih ⊢
    rcases Nat.lt_trichotomy a b with h | rfl | h
    · exact .inl ⟨by omega, .inl (by omega)⟩
    · rcases ih with ih | ih
      · exact .inl ⟨by omega, .inr ih⟩
      · exact .inr ⟨by omega, .inr ih⟩
    · exact .inr ⟨by omega, .inl (by omega)⟩
theorem leL_trans : ∀ a b c : List Nat, leL a b = true → leL b c = true → leL a c = true
  | [], _, c => fun _ _ => by cases c <;> rfl
  | _ :: _, [], _ => fun h => by cases h
  | _ :: _, _ :: _, [] => fun _ h => by cases h
  | a :: r, b :: t, c :: u => fun h1 h2 => by
    have ih := leL_trans r t u
    unfold leL at ih h1 h2 ⊢
    simp only [Spec.ltCps, Bool.not_eq_true', Bool.or_eq_false_iff, Bool.and_eq_false_iff, decide_eq_false_iff_not, beq_eq_false_iff_ne] at ih h1 h2 ⊢
    obtain ⟨x1, x2⟩ := h1
    obtain ⟨y1, y2⟩ := h2
    refine ⟨by omega, ?_⟩
    by_cases e : c = a
    · right
      subst e
      have e2 : b = c := by omega
      subst e2
      exact ih (x2.resolve_left (by simp)) (y2.resolve_left (by simp))
    · exact .inl e
theorem leL_anti : ∀ a b : List Nat, leL a b = true → leL b a = true → a = b
  | [], [] => fun _ _ => rfl
  | [], _ :: _ => fun _ h => by cases h
  | _ :: _, [] => fun h => by cases h
  | a :: r, b :: t => fun h1 h2 => by
    have ih := leL_anti r t
    unfold leL at ih h1 h2
    simp only [Spec.ltCps, Bool.not_eq_true', Bool.or_eq_false_iff, Bool.and_eq_false_iff, decide_eq_false_iff_not, beq_eq_false_iff_ne] at ih h1 h2
    obtain ⟨x1, x2⟩ := h1
    obtain ⟨y1, y2⟩ := h2
    have e : a = b := by omega
    subst e
    rw [ih (x2.resolve_left (by simp)) (y2.resolve_left (by simp))]
def sortL (l : List (List Nat)) : List (List Nat) := l.mergeSort leL
theorem sortL_perm (l : List (List Nat)) : (sortL l).Perm l := List.mergeSort_perm ..
theorem sortL_pw (l : List (List Nat)) : (sortL l).Pairwise fun a b => leL a b = true := List.pairwise_mergeSort leL_trans leL_total l
theorem pw_risingS : ∀ (p : Str) (l : List Str), risingS p l = true → ((p :: l).map fun x => x.cps.toList).Pairwise fun a b => leL a b = true
  | p, [], _ => List.pairwise_singleton ..
  | p, x :: r, h => by
    have h : (!Spec.ltCps x.cps.toList p.cps.toList && risingS x r) = true := h
    simp only [Bool.and_eq_true] at h
    have ih := pw_risingS x r h.2
    rw [List.map_cons]
    refine List.pairwise_cons.mpr ⟨fun y hy => ?_, ih⟩
    rw [List.map_cons] at hy ih
    rcases List.mem_cons.mp hy with rfl | hy
    · exact h.1
    · exact leL_trans _ _ _ h.1 ((List.pairwise_cons.mp ih).1 y hy)
theorem sortedS_uniq {ys ss : List Str} (hp : ys.Perm ss) (hs : sortedS ys = true) : ys.map (fun x => x.cps.toList) = sortL (ss.map fun x => x.cps.toList) := by
  have h1 : (ys.map fun x => x.cps.toList).Pairwise fun a b => leL a b = true := by
    cases ys with
    | nil => exact .nil
    | cons x r => exact pw_risingS x r hs
  refine List.Perm.eq_of_pairwise (le := fun a b => leL a b = true) (fun a b _ _ => leL_anti a b) h1 (sortL_pw _) ?_
  exact (hp.map _).trans (sortL_perm _).symm
variable [CM]
section
variable {K : PySem.W.Frag} {c : VC} {Wx : WX} {X : Cx}
def sortS (ss : List Str) : Option W := cif (ss.length < 64) (some (.tmp (.lst ((sortL (ss.map fun x => x.cps.toList)).map dT)))) none
def sortI (ns : List Int) : Option W := cif (ns.length < 64) (some (.tmp (.lst ((ns.mergeSort fun a b => decide (a ≤ b)).map D.int)))) none
def sort2 : List D → Option (List Str) → Option (List Int) → Option W
  | _, some ss, _ => sortS ss
  | _, none, some ns => sortI ns
  | _, none, none => none
def fSorted : F1
  | [.lst ds] => sort2 ds (strsOf ds) (intsOf ds)
  | _ => none
@[simp] theorem fSorted_c1 (ds) : fSorted [.lst ds] = sort2 ds (strsOf ds) (intsOf ds) := rfl
@[simp] theorem sort2_c1 (ds ss o) : sort2 ds (some ss) o = sortS ss := rfl
@[simp] theorem sort2_c2 (ds ns) : sort2 ds none (some ns) = sortI ns := rfl
@[simp] theorem sortS_tx {l : List (List Nat)} (h : l.length < 64) : sortS (l.map tx) = some (.tmp (.lst ((sortL l).map dT))) := by
  have e : ((l.map tx).map fun x : Str => x.cps.toList) = l := by rw [List.map_map]; simp [Function.comp_def]
  unfold sortS
  rw [cif_pos (by simpa using h), e]
@[simp] theorem sortI_of {ns : List Int} (h : ns.length < 64) : sortI ns = some (.tmp (.lst ((ns.mergeSort fun a b => decide (a ≤ b)).map D.int))) := cif_pos h
theorem cbf_sorted : CbF fSorted dSorted := by
  intro ds w Q h q
  unfold fSorted at h
  split at h
  · rename_i ds
    show (∃ ss : List Str, _) ∨ _
    cases h1 : strsOf ds with
    | some ss =>
      rw [h1] at h
      have h : cif (ss.length < 64) (some (W.tmp (.lst ((sortL (ss.map fun x => x.cps.toList)).map dT)))) none = some w := h
      by_cases hl : ss.length < 64
      · rw [cif_pos hl] at h
        cases h
        refine .inl ⟨ss, strsOf_some h1, hl, fun ys hp hs => ?_⟩
        have e := sortedS_uniq hp hs
        have e2 : ys.map D.str = (sortL (ss.map fun x => x.cps.toList)).map dT := by
          rw [← e, List.map_map]
          exact List.map_congr_left fun y _ => congrArg D.str (tx_of y)
        rw [e2]; exact q
      · rw [cif_neg hl] at h; cases h
    | none =>
      rw [h1] at h
      cases h2 : intsOf ds with
      | none => rw [h2] at h; cases h
      | some ns =>
        rw [h2] at h
        have h : cif (ns.length < 64) (some (W.tmp (.lst ((ns.mergeSort fun a b => decide (a ≤ b)).map D.int)))) none = some w := h
        by_cases hl : ns.length < 64
        · rw [cif_pos hl] at h
          cases h
          refine .inr ⟨ns, intsOf_some h2, hl, fun ys hp hs => ?_⟩
          have e : ys = ns.mergeSort fun a b => decide (a ≤ b) := by
            refine List.Perm.eq_of_pairwise (le := fun a b : Int => a ≤ b) (fun a b _ _ => Int.le_antisymm) hs ?_ (hp.trans (List.mergeSort_perm ..).symm)
            refine (List.pairwise_mergeSort (le := fun a b : Int => decide (a ≤ b)) (fun a b c h1 h2 => by simp at *; omega) (fun a b => by simp; omega) ns).imp fun h => by simpa using h
          rw [e]; exact q
        · rw [cif_neg hl] at h; cases h
  · cases h
theorem fe_sorted {e : Expr} {p pos : Pos} {t : TA} {v : MA} (hm : X.mg "sorted" = none) (ha : FA X c Wx [e] t v) (hg : Gl X "sorted" := by rfl) (he : starEach [e] X.env = (false, eval e X.env) :: starEach [] X.env := by rfl) (hpl : (backTo pos (starEach [] X.env)).any (·.1) = false := by rfl) :
    FE X c Wx (.Call (.Name "sorted" p) [e] [] pos) (tCB (fun xs H Q => rSortedS X.K xs H Q ∨ rSorted X.K xs H Q) t) (mCB fSorted v) := (ve_sorted hm ha hg he hpl).weak fun _ _ _ h => po_cb cbf_sorted h
def rev2 (e : Env) : Option D → R Env W
  | some (.lst ds) => .ok (.tmp (.lst ds.reverse)) e
  | _ => .no
@[simp] theorem rev2_c1 (e : Env) (ds) : rev2 e (some (.lst ds)) = .ok (.tmp (.lst ds.reverse)) e := rfl
def rev1 : R Env W → R Env W
  | .ok w e => rev2 e (view w e)
  | .ex C fs s => .ex C fs s
  | .no => .no
@[simp] theorem rev1_c1 (w e) : rev1 (.ok w e) = rev2 e (view w e) := rfl
@[simp] theorem rev1_c2 (C fs s) : rev1 (.ex C fs s) = .ex C fs s := rfl
@[simp] theorem rev1_c3 : rev1 .no = .no := rfl
@[simp] def mRevL (m : ME) (e : Env) : R Env W := rev1 (m e)
theorem pe_or {e : Expr} {t1 t2 : TE} (h1 : PE X e t1) (h2 : PE X e t2) : PE X e (fun σ H Q => t1 σ H Q ∨ t2 σ H Q) := ⟨fun pins s σ H Q I h => h.elim (h1.run pins s σ H Q I) (h2.run pins s σ H Q I)⟩
def posS (z : Str) : List Str → Nat → Option Nat
  | [], _ => none
  | y :: ys, j => cif (y = z) (some j) (posS z ys (j + 1))
def idx4 (z : Str) : Option (List Str) → Option W
  | some ys => (posS z ys 0).map fun j => .val (.int (j : Nat))
  | none => none
@[simp] theorem idx4_c1 (z : Str) (ys) : idx4 z (some ys) = (posS z ys 0).map fun j => .val (.int (j : Nat)) := rfl
noncomputable def fIdxT : F2
  | .tup ds, .str z => idx4 z (strsOf ds)
  | .tup ds, .tup z => idxG (.tup z) ds
  | .tup ds, .int z => idxG (.int z) ds
  | _, _ => none
noncomputable def fIdxL : F2
  | .lst ds, .str z => idx4 z (strsOf ds)
  | .lst ds, .tup z => idxG (.tup z) ds
  | .lst ds, .int z => idxG (.int z) ds
  | _, _ => none
@[simp] theorem fIdxT_c1 (ds z) : fIdxT (.tup ds) (.str z) = idx4 z (strsOf ds) := rfl
@[simp] theorem fIdxL_c1 (ds z) : fIdxL (.lst ds) (.str z) = idx4 z (strsOf ds) := rfl
@[simp] theorem fIdxT_c2 (ds z) : fIdxT (.tup ds) (.tup z) = idxG (.tup z) ds := rfl
@[simp] theorem fIdxT_c3 (ds z) : fIdxT (.tup ds) (.int z) = idxG (.int z) ds := rfl
@[simp] theorem fIdxL_c2 (ds z) : fIdxL (.lst ds) (.tup z) = idxG (.tup z) ds := rfl
@[simp] theorem fIdxL_c3 (ds z) : fIdxL (.lst ds) (.int z) = idxG (.int z) ds := rfl
noncomputable def idx2 (a : ME) (w : W) (e : Env) : Option D → R Env W
  | some (.tup _) => op2 fIdxT (fzv w) (a e)
  | some (.lst _) => op2 fIdxL (fzv w) (a e)
  | _ => .no
@[simp] theorem idx2_c1 (a : ME) (w : W) (e : Env) (ds) : idx2 a w e (some (.tup ds)) = op2 fIdxT (fzv w) (a e) := rfl
@[simp] theorem idx2_c2 (a : ME) (w : W) (e : Env) (ds) : idx2 a w e (some (.lst ds)) = op2 fIdxL (fzv w) (a e) := rfl
noncomputable def idx1 (a : ME) : R Env W → R Env W
  | .ok w e => idx2 a w e (view (fzv w) e)
  | .ex C fs s => .ex C fs s
  | .no => .no
@[simp] theorem idx1_c1 (a : ME) (w e) : idx1 a (.ok w e) = idx2 a w e (view (fzv w) e) := rfl
@[simp] theorem idx1_c2 (a : ME) (C fs s) : idx1 a (.ex C fs s) = .ex C fs s := rfl
@[simp] theorem idx1_c3 (a : ME) : idx1 a .no = .no := rfl
@[simp] noncomputable def mIdx (o a : ME) (e : Env) : R Env W := idx1 a (o e)
end
end
end VL
set_option Elab.async false
set_option linter.all false
set_option maxRecDepth 100000
set_option maxHeartbeats 4000000
namespace VL
noncomputable section
open PySem PySem.Spec PyProof.Rows L2
section
variable {X : Cx} {C : Addr} {bmB : List Value} {B newId initId : String}
end
variable [CM]
structure ExcK (K : PySem.W.Frag) (mg : Str → Option Value) (C : Str) : Prop where
  q : PySem.W.excIn K (CM.at_ C) [.type "ValueError", .type "Exception", .type "BaseException", .type "object"] "ValueError.__new__" = true
  g : mg C = some (.ref (CM.at_ C))
  kp : PySem.W.keepIn K (.ref (CM.at_ C)) = true
  sb : PySem.W.subIn K (.ref (CM.at_ C)) (.type "BaseException") = some true
  ty : PySem.W.typeIn K (.ref (CM.at_ C)) = some (.type "type")
  is : IsExc K C
section
variable {c : VC} {Wx : WX} {X : Cx}
@[simp] def mRaise (C : Str) (e : Env) : SR := .ex C [] e
end
end
end VL
set_option Elab.async false
set_option linter.all false
set_option maxRecDepth 100000
set_option maxHeartbeats 4000000
namespace VL
noncomputable section
open PySem PySem.Spec PyProof.Rows L2
def clsB (s : Stmt) (j : Nat) : Stmt := match s with
  | .ClassDef _ _ _ b _ _ _ _ _ _ _ => b.getD j (.Pass ⟨0, 0, 0, 0⟩)
  | _ => .Pass ⟨0, 0, 0, 0⟩
variable [CM]
section
variable {c : VC} {Wx : WX} {X : Cx}
theorem fe_makeK {C : Str} {j k : Nat} {ps : List Str} {F : FN} {fa : Addr} {fd : FuncData} {p pos : Pos} {e : Expr} {es : List Expr} {t : TA} {v : MA} (hk : j + 1 ≤ k) (M : CCallee X.prog X.w X.K X.mg X.base c.T C j ps (spF F) fa fd) (hr : Room k X.A) (hx : L2N.Takes X Wx)
    (ha : FA X c Wx (e :: es) t v) (hg : Gl X C := by rfl) (hdb : (C == ("__debug__" : Str)) = false := by decide) (he : starEach (e :: es) X.env = (false, eval e X.env) :: starEach es X.env := by rfl) (hpl : (backTo pos (starEach es X.env)).any (·.1) = false := by rfl) :
    FE X c Wx (.Call (.Name C p) (e :: es) [] pos) (tMakeSD (CM.at_ C) (spOf X.K c.T (spF F)) (WE Wx) t) (mMake F C v) := fe_make M (hr.mono hk) hx ha hg hdb he hpl
end
theorem VGt.re {X : Cx} {c : VC} {ss : List Nat} {tg : Expr} {g g' : TG} {vg : VG} (h : VGt X c ss tg g vg) (e : g = g') : VGt X c ss tg g' vg := e ▸ h
section
variable {K : PySem.W.Frag} {mg : Str → Option Value} {C : Str} {a : Addr}
theorem at_cls (e : CM.at_ C = a) (h : Cls K a) : Cls K (CM.at_ C) := by rw [e]; exact h
theorem at_no (e : CM.at_ C = a) {f : Str} (h : PySem.W.findIn K (.ref a) f = some none) : NoAttr K (CM.at_ C) f := by rw [e]; exact h
theorem at_funM (e : CM.at_ C = a) {m qual : Str} {st : Stmt} {ps : List Str} {f : Addr} {fd : FuncData} (F : Fun K m qual st f fd) (cl : Cls K a) (h1 : PySem.W.findIn K (.ref a) m = some (some (.ref f))) (h2 : PySem.W.isFn K (.ref f) = true) (b : Binds K fd ps []) : FunM K C m qual st ps f fd :=
  ⟨F, at_cls e cl, by rw [e]; exact ⟨h1, h2, F.kp⟩, b⟩
theorem at_funI (e : CM.at_ C = a) {qual : Str} {st : Stmt} {ps : List Str} {f : Addr} {fd : FuncData} (F : Fun K "__init__" qual st f fd) (cl : Cls K a) (g : mg C = some (.ref a)) (h1 : PySem.W.makesIn K a = true) (h2 : PySem.W.findIn K (.ref a) "__init__" = some (some (.ref f))) (h3 : PySem.W.isFn K (.ref f) = true) (h4 : PySem.W.keepIn K (.ref a) = true) (b : Binds K fd ps []) : FunI K mg C qual st ps f fd :=
  ⟨F, at_cls e cl, by rw [e]; exact g, by rw [e]; exact ⟨h1, h2, h3, h4⟩, b⟩
theorem kit_ve (h : PySem.W.subIn K (.ref a) (.type "ValueError") = some true) : PySem.W.kitOne K (.ref a) (.type "ValueError") = some true := by
  unfold PySem.W.kitOne
  split
  · rfl
  · show (if PySem.W.kitMeta "ValueError" = true then PySem.W.subIn K (.ref a) (.type "ValueError") else none) = some true
    rw [if_pos (by decide +kernel)]; exact h
end
end
end VL
set_option Elab.async false
set_option linter.all false
set_option maxRecDepth 100000
set_option maxHeartbeats 4000000
namespace VL
open PySem PySem.Spec PyProof.Rows L2
noncomputable def F_path_words : FN := fnM 1 1 [] (mSeq (mIfS (mTst (mOp (fEq false) (mName 0) (mC (.str "")))) (mRet [] (mTup mNil)) mNext)
    (mRet [] (mCB fTuple (mCons (mSS splitS (mName 0) (mC (.str "/"))) mNil))))
noncomputable def F_law_level : FN := fnM 1 1 [] (mSeq (mIfS (mTst (mOp (fEq false) (mName 0) (mC (.str "")))) (mRet [] (mC (.int 0))) mNext)
    (mRet [] (mCB fLen (mCons (mSS splitS (mName 0) (mC (.str "/"))) mNil))))
variable [CM]
theorem slash_tx : Str.ofString "/" = tx [47] := by decide +kernel
theorem nil_tx : Str.ofString "" = tx [] := by decide +kernel
def clean (w : List Nat) : Prop := w ≠ [] ∧ 47 ∉ w
def pathT (ws : List (List Nat)) : List Nat := TL.joinL [47] ws
theorem pathT_nil : pathT [] = [] := rfl
theorem pathT_ne {ws : List (List Nat)} (h : ws ≠ []) (hc : ∀ w ∈ ws, clean w) : pathT ws ≠ [] := by
  cases ws with
  | nil => exact absurd rfl h
  | cons w r =>
    have hw := (hc w (List.mem_cons_self ..)).1
    cases r with
    | nil => simpa [pathT, TL.joinL] using hw
    | cons v r => simp [pathT, TL.joinL]
theorem split_path {ws : List (List Nat)} (h : ws ≠ []) (hc : ∀ w ∈ ws, clean w) : Txt.split (tx (pathT ws)) (tx [47]) = ws.map tx := by
  have := SX.split_S (a := pathT ws) (b := [47]) (by simp) (by decide)
  refine this.trans ?_
  rw [show TL.spl [47] 0 [] (pathT ws) = ws from SX.spl_join h fun p hp => (hc p hp).2]
  rfl
theorem path_words_eq {ws : List (List Nat)} (hc : ∀ w ∈ ws, clean w) (hl : (pathT ws).length ≤ 16777214) : F_path_words [.val (dT (pathT ws))] = .ok (.val (.tup (ws.map dT))) [.val (dT (pathT ws))] := by
  by_cases h : ws = []
  · subst h
    simp [F_path_words, nil_tx, pathT_nil]
  · have h1 := pathT_ne h hc
    simp [F_path_words, nil_tx, h1, slash_tx, hl, split_path h hc]
theorem cutD_to (ds : List D) (n : Nat) : cutD ds none (some (n : Int)) = ds.take n := by
  unfold cutD
  rw [HT.sIx_none, HT.sIx_nat, Nat.sub_zero, List.drop_zero]
  by_cases h : n ≤ ds.length
  · rw [Nat.min_eq_left h]
  · rw [Nat.min_eq_right (by omega), List.take_of_length_le (Nat.le_refl _), List.take_of_length_le (by omega)]
def szP (ws : List (List Nat)) : Nat := (ws.map List.length).sum + ws.length
theorem pathT_len : ∀ ws : List (List Nat), (pathT ws).length ≤ szP ws
  | [] => Nat.le_refl _
  | [w] => by simp [pathT, TL.joinL, szP]
  | w :: v :: r => by
    have ih := pathT_len (v :: r)
    have e : pathT (w :: v :: r) = w ++ ([47] ++ pathT (v :: r)) := rfl
    rw [e]
    simp only [szP, List.map_cons, List.sum_cons, List.length_cons, List.length_append] at ih ⊢
    simp only [List.length_nil]
    omega
theorem szP_take (ws : List (List Nat)) (n : Nat) : szP (ws.take n) ≤ szP ws := by
  induction ws generalizing n with
  | nil => simp [szP]
  | cons w ws ih =>
    cases n with
    | zero => simp [szP]
    | succ n =>
      have := ih n
      simp only [szP, List.take_succ_cons, List.map_cons, List.sum_cons, List.length_cons] at this ⊢
      omega
theorem law_level_eq {ws : List (List Nat)} (hc : ∀ w ∈ ws, clean w) (hl : szP ws ≤ 1000000) : F_law_level [.val (dT (pathT ws))] = .ok (.val (.int (ws.length : Nat))) [.val (dT (pathT ws))] := by
  have h1 : (pathT ws).length ≤ 16777214 := by have := pathT_len ws; omega
  by_cases h : ws = []
  · subst h
    simp [F_law_level, nil_tx, pathT_nil]
  · have h2 := pathT_ne h hc
    have h3 : ws.length ≤ 16777216 := by unfold szP at hl; omega
    simp [F_law_level, nil_tx, h2, slash_tx, h1, split_path h hc, h3]
theorem pathT_inj {a b : List (List Nat)} (ha : ∀ w ∈ a, clean w) (hb : ∀ w ∈ b, clean w) (h : pathT a = pathT b) : a = b := by
  by_cases ea : a = []
  · by_cases eb : b = []
    · rw [ea, eb]
    · subst ea
      exact absurd h.symm (pathT_ne eb hb)
  · by_cases eb : b = []
    · subst eb
      exact absurd h (pathT_ne ea ha)
    · rw [← show TL.spl [47] 0 [] (pathT a) = a from SX.spl_join ea fun p hp => (ha p hp).2, h]
      exact SX.spl_join eb fun p hp => (hb p hp).2
theorem atI_last {α : Type} (xs : List α) (x : α) : atI (xs ++ [x]) (-1) = some x := by
  unfold atI
  have e : ixN (xs ++ [x]).length (-1) = some xs.length := by
    unfold ixN
    simp only [List.length_append, List.length_singleton]
    first
      | (rw [if_neg (by omega), if_pos (by omega)]; congr 1; omega)
      | (split <;> first | omega | (split <;> first | omega | (congr 1; omega)))
  rw [e]
  simp
theorem loop_pre {ι : Type} {g : GM} {b : MS} (mk : List ι → Env) (en : ι → D) (xs : List ι) (h : ∀ pre x post, xs = pre ++ x :: post → turnM g b (en x) (mk pre) = .nx (mk (pre ++ [x]))) : loopM g b (xs.map en) (mk []) = .nx (mk xs) := by
  have key : ∀ post pre, xs = pre ++ post → loopM g b (post.map en) (mk pre) = .nx (mk xs) := by
    intro post
    induction post with
    | nil => intro pre e; rw [e, List.append_nil]; rfl
    | cons x post ih =>
      intro pre e
      rw [List.map_cons, loop_cons, h pre x post e]
      exact ih (pre ++ [x]) (by rw [e]; simp)
  exact key xs [] rfl
def ddStep (acc : List (List (List Nat))) (x : List (List Nat)) : List (List (List Nat)) := if acc.getLast? = some x then acc else acc ++ [x]
def members (ls : List (List (List Nat))) (n : Nat) : List (List (List Nat)) := (ls.map (List.take n)).foldl ddStep []
def leafD (ws : List (List Nat)) : D := dT (pathT ws)
def okL (ls : List (List (List Nat))) : Prop := (∀ ws ∈ ls, (∀ w ∈ ws, clean w) ∧ szP ws ≤ 1000000) ∧ ls.length ≤ 1000
end VL
set_option Elab.async false
set_option linter.all false
set_option maxRecDepth 100000
set_option maxHeartbeats 4000000
namespace VL
open PySem PySem.Spec PyProof.Rows L2
variable [CM]
theorem loop_const {ι : Type} {g : GM} {b : MS} {e : Env} (en : ι → D) (xs : List ι) (h : ∀ x ∈ xs, turnM g b (en x) e = .nx e) : loopM g b (xs.map en) e = .nx e := by
  have := loop_search (g := g) (b := b) (e := e) (e' := e) (w := .val .non) en (fun _ => false) xs (by simpa using h)
  simpa using this
theorem isWord_clean {w : List Nat} (h : isWord w = true) : clean w ∧ w.length ≤ 8 := by
  unfold isWord at h
  simp only [Bool.and_eq_true, decide_eq_true_eq, List.all_eq_true] at h
  obtain ⟨⟨⟨h1, h2⟩, h3⟩, h4⟩ := h
  refine ⟨⟨fun e => by rw [e] at h1; simp at h1, fun h5 => ?_⟩, h2⟩
  have := h4 47 h5
  revert this; decide
structure GoodL (ls : List (List (List Nat))) (d : Nat) : Prop where
  lo : 2 ≤ ls.length
  hi : ls.length ≤ 8
  d1 : 1 ≤ d
  d3 : d ≤ 3
  wd : ∀ ws ∈ ls, ws.length = d ∧ ∀ w ∈ ws, isWord w = true
  up : ∀ i a b, ls[i]? = some a → ls[i + 1]? = some b → strLt (tx (pathT a)) (tx (pathT b)) = true
theorem szP_le {n : Nat} : ∀ {ws : List (List Nat)}, (∀ w ∈ ws, w.length ≤ n) → szP ws ≤ (n + 1) * ws.length
  | [], _ => by simp [szP]
  | w :: ws, h => by
    have ih := szP_le (n := n) (ws := ws) fun w hw => h w (List.mem_cons_of_mem _ hw)
    have := h w (List.mem_cons_self ..)
    simp only [szP, List.map_cons, List.sum_cons, List.length_cons, Nat.mul_add, Nat.mul_one] at ih ⊢
    omega
theorem GoodL.leaf {ls : List (List (List Nat))} {d : Nat} (g : GoodL ls d) {ws : List (List Nat)} (h : ws ∈ ls) : (∀ w ∈ ws, clean w) ∧ szP ws ≤ 100 := by
  obtain ⟨h1, h2⟩ := g.wd ws h
  refine ⟨fun w hw => (isWord_clean (h2 w hw)).1, ?_⟩
  have := szP_le (n := 8) (ws := ws) fun w hw => (isWord_clean (h2 w hw)).2
  have := g.d3
  omega
theorem GoodL.ok {ls : List (List (List Nat))} {d : Nat} (g : GoodL ls d) : okL ls := ⟨fun ws h => ⟨(g.leaf h).1, by have := (g.leaf h).2; omega⟩, by have := g.hi; omega⟩
theorem GoodL.words {ls : List (List (List Nat))} {d : Nat} (g : GoodL ls d) {ws : List (List Nat)} (h : ws ∈ ls) : F_path_words [.val (leafD ws)] = .ok (.val (.tup (ws.map dT))) [.val (leafD ws)] :=
  path_words_eq (g.leaf h).1 (by have := pathT_len ws; have := (g.leaf h).2; omega)
theorem inSeq_tx (x : List Nat) : ∀ l : List (List Nat), inSeq (dT x) (l.map dT) = some (decide (x ∈ l))
  | [] => by simp [inSeq]
  | y :: l => by
    have ih := inSeq_tx x l
    simp [inSeq, tx_beq] at ih ⊢
    rw [ih]
    congr 1
    exact decide_eq_decide.mpr eq_comm
structure Dim where
  nm : List Nat
  ls : List (List (List Nat))
  dp : Nat
def Dim.d (m : Dim) : D := .tup [dT m.nm, .tup (m.ls.map leafD)]
def cellsN (ms : List Dim) : Nat := (ms.map fun m => m.ls.length).foldl (· * ·) 1
structure GoodD (ms : List Dim) : Prop where
  lo : 1 ≤ ms.length
  hi : ms.length ≤ 3
  good : ∀ m ∈ ms, isWord m.nm = true ∧ GoodL m.ls m.dp
  nd : (ms.map (·.nm)).Nodup
  few : cellsN ms ≤ 48
theorem cells_snoc (ms : List Dim) (m : Dim) : cellsN (ms ++ [m]) = cellsN ms * m.ls.length := by simp [cellsN]
end VL
set_option Elab.async false
set_option linter.all false
set_option maxRecDepth 100000
set_option maxHeartbeats 4000000
namespace VL
open PySem PySem.Spec PyProof.Rows L2
variable [CM]
def rowD (m : Dim) : D := .tup ((List.range (m.dp + 1)).map fun l : Nat => D.tup ((members m.ls l).map leafD))
def grpOf (m : Dim) (l : Nat) (ws : List (List Nat)) : Nat := (members m.ls l).idxOf (ws.take l)
def innD (m : Dim) : D := .tup ((List.range (m.dp + 1)).map fun l : Nat => D.tup (m.ls.map fun ws => D.int (grpOf m l ws : Nat)))
def spaceF (ms : List Dim) : List (Str × D) := [("dimensions", .tup (ms.map Dim.d)), ("table", .tup (ms.map rowD)), ("inner", .tup (ms.map innD)), ("many", .int (cellsN ms : Nat))]
theorem strLt_irr (a : Str) : strLt a a = false := by
  have h : ∀ l : List Nat, Spec.ltCps l l = false := by
    intro l
    induction l with
    | nil => rfl
    | cons x l ih => simp [Spec.ltCps, ih]
  first | exact h _ | (unfold strLt; simp [h])
theorem GoodL.take {ls : List (List (List Nat))} {d : Nat} (g : GoodL ls d) : ls.map (List.take d) = ls := by
  have : ls.map (List.take d) = ls.map id := List.map_congr_left fun ws h => List.take_of_length_le (by rw [(g.wd ws h).1]; exact Nat.le_refl _)
  rw [this, List.map_id]
theorem dd_id : ∀ (l acc : List (List (List Nat))), (∀ i a b, (acc ++ l)[i]? = some a → (acc ++ l)[i + 1]? = some b → a ≠ b) → l.foldl ddStep acc = acc ++ l
  | [], acc, _ => by simp
  | x :: l, acc, h => by
    have hs : ddStep acc x = acc ++ [x] := by
      unfold ddStep
      rw [if_neg]
      intro z
      rcases List.eq_nil_or_concat acc with rfl | ⟨ys, y, rfl⟩
      · cases z
      · rw [List.concat_eq_append] at *
        have z : y = x := by simpa using z
        exact h ys.length y x (by simp) (by simp) z
    rw [List.foldl_cons, hs, dd_id l (acc ++ [x]) (by simpa using h)]
    simp
theorem GoodL.top {ls : List (List (List Nat))} {d : Nat} (g : GoodL ls d) : members ls d = ls := by
  unfold members
  rw [g.take]
  have := dd_id ls [] (by
    intro i a b ha hb e
    have ha : ls[i]? = some a := by simpa using ha
    have hb : ls[i + 1]? = some b := by simpa using hb
    have := g.up i a b ha hb
    rw [e, strLt_irr] at this
    cases this)
  simpa using this
theorem GoodL.first {ls : List (List (List Nat))} {d : Nat} (g : GoodL ls d) : ∃ ws, ws ∈ ls ∧ atI (ls.map leafD) 0 = some (leafD ws) := by
  cases ls with
  | nil => have := g.lo; simp at this
  | cons a r => exact ⟨a, by simp, atI_nat (j := 0) rfl⟩
theorem strsOf_leaf (l : List (List (List Nat))) : strsOf (l.map leafD) = some (l.map fun x => tx (pathT x)) := strsOf_mapf _ _
end VL
set_option Elab.async false
set_option linter.all false
set_option maxRecDepth 100000
set_option maxHeartbeats 4000000
namespace VL
open PySem PySem.Spec PyProof.Rows L2
noncomputable def F_law_word : FN := fnM 2 7 [0, 1] (mSeq (mSet 2 (mC (.str "abcdefghijklmnopqrstuvwxyz")))
    (mSeq (mFor (mRng (mCons (mC (.int 3)) mNil)) (gmName 3) (mKill [3, 4, 5] (mSeq (mSet 4 (mC (.str "")))
    (mSeq (mFor (mRng (mCons (mOp fAdd (mC (.int 1)) (mOp fMul (mCall F_law_draw (mCons (mName 0) (mCons (mC (.int 8)) mNil))) (mCall F_law_draw (mCons (mName 0) (mCons (mC (.int 2)) mNil))))) mNil)) (gmName 5) (mKill [5] (mSet 4 (mOp fAdd (mName 4) (mOp fIx (mName 2) (mCall F_law_draw (mCons (mName 0) (mCons (mC (.int 26)) mNil))))))))
    (mIfS (mAndT (mTst (mOp (fIn true) (mName 4) (mName 1))) (mTst (mOp (fIn true) (mName 4) (mTup (mCons (mC (.str "sum")) (mCons (mC (.str "where")) (mCons (mC (.str "in")) (mCons (mC (.str "and")) mNil)))))))) (mRet [0, 1] (mName 4)) mNext)))))
    (mSeq (mFor (mIt (mName 2)) (gmName 6) (mKill [6] (mIfS (mTst (mOp (fIn true) (mName 6) (mName 1))) (mRet [0, 1] (mName 6)) mNext)))
    (mRet [0, 1] (mC (.str "zz"))))))
variable [CM]
theorem atI_lt {α : Type} {xs : List α} {r : Nat} (h : r < xs.length) : ∃ x, x ∈ xs ∧ atI xs (r : Int) = some x :=
  ⟨xs[r], List.getElem_mem h, atI_nat (List.getElem?_eq_getElem h)⟩
def isTaken (taken : List (List Nat)) (m : M) : Prop := m = .own (.lst (taken.map dT)) ∨ m = .val (.lst (taken.map dT))
theorem letter_word {w : List Nat} (h1 : 1 ≤ w.length) (h8 : w.length ≤ 8) (hl : ∀ n ∈ w, n ∈ lettersL) (hr : ¬ (w = wSum ∨ w = wWhere ∨ w = wIn ∨ w = wAnd)) : isWord w = true := by
  unfold isWord
  have h9 : (decide (w = wSum) || decide (w = wWhere) || decide (w = wIn) || decide (w = wAnd)) = false := by
    simp only [Bool.or_eq_false_iff, decide_eq_false_iff_not]
    exact ⟨⟨⟨fun e => hr (.inl e), fun e => hr (.inr (.inl e))⟩, fun e => hr (.inr (.inr (.inl e)))⟩, fun e => hr (.inr (.inr (.inr e)))⟩
  rw [h9]
  simp [h1, h8]
  exact fun n hn => hl n hn
def ltD : D := .str (Str.ofString "abcdefghijklmnopqrstuvwxyz")
theorem word_turn (ds : List Int) (k : Nat) {taken : List (List Nat)} {m : M} (hm : isTaken taken m) (i : Int) :
    (∃ k' : Nat, turnM (gmName 3) (mKill [3, 4, 5] (mSeq (mSet 4 (mC (.str "")))
    (mSeq (mFor (mRng (mCons (mOp fAdd (mC (.int 1)) (mOp fMul (mCall F_law_draw (mCons (mName 0) (mCons (mC (.int 8)) mNil))) (mCall F_law_draw (mCons (mName 0) (mCons (mC (.int 2)) mNil))))) mNil)) (gmName 5) (mKill [5] (mSet 4 (mOp fAdd (mName 4) (mOp fIx (mName 2) (mCall F_law_draw (mCons (mName 0) (mCons (mC (.int 26)) mNil))))))))
    (mIfS (mAndT (mTst (mOp (fIn true) (mName 4) (mName 1))) (mTst (mOp (fIn true) (mName 4) (mTup (mCons (mC (.str "sum")) (mCons (mC (.str "where")) (mCons (mC (.str "in")) (mCons (mC (.str "and")) mNil)))))))) (mRet [0, 1] (mName 4)) mNext)))) (.int i) [some (.own (boxD ds k)), some m, some (.val ltD), none, none, none, none] = .nx [some (.own (boxD ds k')), some m, some (.val ltD), none, none, none, none]) ∨
    ∃ (w : List Nat) (k' : Nat) (rest : Env), isWord w = true ∧ w ∉ taken ∧ turnM (gmName 3) (mKill [3, 4, 5] (mSeq (mSet 4 (mC (.str "")))
    (mSeq (mFor (mRng (mCons (mOp fAdd (mC (.int 1)) (mOp fMul (mCall F_law_draw (mCons (mName 0) (mCons (mC (.int 8)) mNil))) (mCall F_law_draw (mCons (mName 0) (mCons (mC (.int 2)) mNil))))) mNil)) (gmName 5) (mKill [5] (mSet 4 (mOp fAdd (mName 4) (mOp fIx (mName 2) (mCall F_law_draw (mCons (mName 0) (mCons (mC (.int 26)) mNil))))))))
    (mIfS (mAndT (mTst (mOp (fIn true) (mName 4) (mName 1))) (mTst (mOp (fIn true) (mName 4) (mTup (mCons (mC (.str "sum")) (mCons (mC (.str "where")) (mCons (mC (.str "in")) (mCons (mC (.str "and")) mNil)))))))) (mRet [0, 1] (mName 4)) mNext)))) (.int i) [some (.own (boxD ds k)), some m, some (.val ltD), none, none, none, none] = .rt (.val (dT w)) (some (.own (boxD ds k')) :: some m :: rest) := by
  obtain ⟨r1, hr1, er1⟩ := draw_ex ds k (m := 8) (by decide)
  obtain ⟨r2, hr2, er2⟩ := draw_ex ds (k + 1) (m := 2) (by decide)
  have hp : (r1 : Int) * r2 = ((r1 * r2 : Nat) : Int) := by simp
  have hpn : r1 * r2 ≤ 7 := by
    have : r1 ≤ 7 := by omega
    have : r2 ≤ 1 := by omega
    calc r1 * r2 ≤ 7 * 1 := Nat.mul_le_mul (by omega) (by omega)
      _ = 7 := rfl
  have hb : -18446744073709551616 < (r2 : Int) ∧ (r2 : Int) < 18446744073709551616 := by omega
  have hs : (1 : Int) + (r1 : Int) * r2 = ((1 + r1 * r2 : Nat) : Int) := by simp
  have hz : 1 + r1 * r2 < 4611686018427387904 := by omega
  simp [law_draw_eq, er1, er2, hb]
  rw [hs]
  simp only [rng1_nat hz]
  simp
  generalize hr : loopM _ _ _ _ = r
  have hlt : ltD = dT lettersL := by unfold ltD; rw [letters_tx]
  obtain ⟨e', rfl, l, k', rfl, hc, hl⟩ := loop_at hr (fun rest e => ∃ (l : List Nat) (k : Nat), e = [some (.own (boxD ds k)), some m, some (.val ltD), some (.val (.int i)), some (.val (dT l)), none, none] ∧ l.length + rest.length = 1 + r1 * r2 ∧ ∀ n ∈ l, n ∈ lettersL) ⟨[], k + 1 + 1, by rw [nil_tx], by simp, by simp⟩ (by
    rintro d rest e r' ⟨l, k, rfl, hc, hl⟩ hr'
    obtain ⟨r3, hr3, er3⟩ := draw_ex ds k (m := 26) (by decide)
    obtain ⟨x, hx, ex⟩ := atI_lt (xs := lettersL) (r := r3) (by have : lettersL.length = 26 := rfl; omega)
    have hz : lettersL.length ≤ 16777216 := by decide
    simp only [List.length_cons] at hc
    have hl2 : l.length + 1 ≤ 16777216 := by omega
    simp [law_draw_eq, er3, ex, hlt, hz, hl2] at hr'
    subst hr'
    exact ⟨_, .inl rfl, l ++ [x], k + 1, by rw [hlt], by simp; omega, fun n hn => by
      rcases List.mem_append.mp hn with h | h
      · exact hl n h
      · rw [List.mem_singleton.mp h]; exact hx⟩)
  clear hr
  simp only [List.length_nil, Nat.add_zero] at hc
  have hin := inSeq_tx l taken
  have hin2 : inSeq (dT l) [D.str (Str.ofString "sum"), D.str (Str.ofString "where"), D.str (Str.ofString "in"), D.str (Str.ofString "and")] = some (decide (l = wSum ∨ l = wWhere ∨ l = wIn ∨ l = wAnd)) := by
    rw [sum_tx, where_tx, in_tx, and_tx]
    simp [tx_beq, eq_comm]
  by_cases ht : l ∈ taken
  · left
    refine ⟨k', ?_⟩
    rcases hm with rfl | rfl <;> simp [hin, ht]
  · by_cases hq : l = wSum ∨ l = wWhere ∨ l = wIn ∨ l = wAnd
    · left
      refine ⟨k', ?_⟩
      rcases hm with rfl | rfl <;> simp [hin, ht, hin2, hq]
    · right
      rcases hm with rfl | rfl
      · exact ⟨l, letter_word (by omega) (by omega) hl hq, ht, k', _, by simp [hin, ht, hin2, hq]; rfl⟩
      · exact ⟨l, letter_word (by omega) (by omega) hl hq, ht, k', _, by simp [hin, ht, hin2, hq]; rfl⟩
theorem nodup_len {α : Type} [DecidableEq α] : ∀ (l t : List α), l.Nodup → (∀ x ∈ l, x ∈ t) → l.length ≤ t.length
  | [], t, _, _ => Nat.zero_le _
  | x :: l, t, hn, hs => by
    have hx : x ∈ t := hs x (by simp)
    have h1 := List.nodup_cons.mp hn
    have ih := nodup_len l (t.erase x) h1.2 fun y hy => by
      have : y ≠ x := fun e => h1.1 (e ▸ hy)
      exact (List.mem_erase_of_ne this).mpr (hs y (List.mem_cons_of_mem _ hy))
    have h2 := List.length_erase_of_mem hx
    have h3 : 0 < t.length := List.length_pos_of_mem hx
    simp only [List.length_cons]
    omega
theorem free_letter {taken : List (List Nat)} (h : taken.length ≤ 20) : ∃ n ∈ lettersL, [n] ∉ taken := by
  apply Classical.byContradiction
  intro hc
  have hs : ∀ x ∈ lettersL.map (fun n => [n]), x ∈ taken := by
    intro x hx
    obtain ⟨n, hn, rfl⟩ := List.mem_map.mp hx
    apply Classical.byContradiction
    intro hz
    exact hc ⟨n, hn, hz⟩
  have := nodup_len _ _ (by decide) hs
  rw [List.length_map, show lettersL.length = 26 from rfl] at this
  omega
theorem word_loop (ds : List Int) {taken : List (List Nat)} {m : M} (hm : isTaken taken m) : ∀ (is : List Int) (k : Nat),
    (∃ k' : Nat, loopM (gmName 3) (mKill [3, 4, 5] (mSeq (mSet 4 (mC (.str "")))
    (mSeq (mFor (mRng (mCons (mOp fAdd (mC (.int 1)) (mOp fMul (mCall F_law_draw (mCons (mName 0) (mCons (mC (.int 8)) mNil))) (mCall F_law_draw (mCons (mName 0) (mCons (mC (.int 2)) mNil))))) mNil)) (gmName 5) (mKill [5] (mSet 4 (mOp fAdd (mName 4) (mOp fIx (mName 2) (mCall F_law_draw (mCons (mName 0) (mCons (mC (.int 26)) mNil))))))))
    (mIfS (mAndT (mTst (mOp (fIn true) (mName 4) (mName 1))) (mTst (mOp (fIn true) (mName 4) (mTup (mCons (mC (.str "sum")) (mCons (mC (.str "where")) (mCons (mC (.str "in")) (mCons (mC (.str "and")) mNil)))))))) (mRet [0, 1] (mName 4)) mNext)))) (is.map D.int) [some (.own (boxD ds k)), some m, some (.val ltD), none, none, none, none] = .nx [some (.own (boxD ds k')), some m, some (.val ltD), none, none, none, none]) ∨
    ∃ (w : List Nat) (k' : Nat) (rest : Env), isWord w = true ∧ w ∉ taken ∧ loopM (gmName 3) (mKill [3, 4, 5] (mSeq (mSet 4 (mC (.str "")))
    (mSeq (mFor (mRng (mCons (mOp fAdd (mC (.int 1)) (mOp fMul (mCall F_law_draw (mCons (mName 0) (mCons (mC (.int 8)) mNil))) (mCall F_law_draw (mCons (mName 0) (mCons (mC (.int 2)) mNil))))) mNil)) (gmName 5) (mKill [5] (mSet 4 (mOp fAdd (mName 4) (mOp fIx (mName 2) (mCall F_law_draw (mCons (mName 0) (mCons (mC (.int 26)) mNil))))))))
    (mIfS (mAndT (mTst (mOp (fIn true) (mName 4) (mName 1))) (mTst (mOp (fIn true) (mName 4) (mTup (mCons (mC (.str "sum")) (mCons (mC (.str "where")) (mCons (mC (.str "in")) (mCons (mC (.str "and")) mNil)))))))) (mRet [0, 1] (mName 4)) mNext)))) (is.map D.int) [some (.own (boxD ds k)), some m, some (.val ltD), none, none, none, none] = .rt (.val (dT w)) (some (.own (boxD ds k')) :: some m :: rest)
  | [], k => .inl ⟨k, rfl⟩
  | i :: is, k => by
    rw [List.map_cons, loop_cons]
    rcases word_turn ds k hm i with ⟨k', e⟩ | ⟨w, k', rest, h1, h2, e⟩
    · rw [e]
      exact word_loop ds hm is k'
    · right
      exact ⟨w, k', rest, h1, h2, by rw [e]; rfl⟩
theorem single_word {n : Nat} (h : n ∈ lettersL) : isWord [n] = true := letter_word (by simp) (by simp) (by simpa using h) (by simp [wSum, wWhere, wIn, wAnd])
theorem mark_loop (ds : List Int) (k : Nat) {taken : List (List Nat)} {m : M} (hm : isTaken taken m) : ∀ (l : List Nat), (∀ n ∈ l, n ∈ lettersL) → (∃ n ∈ l, [n] ∉ taken) →
    ∃ (w : List Nat) (rest : Env), isWord w = true ∧ w ∉ taken ∧ loopM (gmName 6) (mKill [6] (mIfS (mTst (mOp (fIn true) (mName 6) (mName 1))) (mRet [0, 1] (mName 6)) mNext)) (l.map fun n => dT [n]) [some (.own (boxD ds k)), some m, some (.val ltD), none, none, none, none] = .rt (.val (dT w)) (some (.own (boxD ds k)) :: some m :: rest)
  | [], _, h => by obtain ⟨n, hn, _⟩ := h; cases hn
  | n :: l, hl, h => by
    rw [List.map_cons, loop_cons]
    have hin := inSeq_tx [n] taken
    by_cases ht : [n] ∈ taken
    · have e : turnM (gmName 6) (mKill [6] (mIfS (mTst (mOp (fIn true) (mName 6) (mName 1))) (mRet [0, 1] (mName 6)) mNext)) (dT [n]) [some (.own (boxD ds k)), some m, some (.val ltD), none, none, none, none] = .nx [some (.own (boxD ds k)), some m, some (.val ltD), none, none, none, none] := by
        rcases hm with rfl | rfl <;> simp [hin, ht]
      rw [e]
      refine mark_loop ds k hm l (fun x hx => hl x (List.mem_cons_of_mem _ hx)) ?_
      obtain ⟨x, hx, hz⟩ := h
      rcases List.mem_cons.mp hx with rfl | hx
      · exact absurd ht hz
      · exact ⟨x, hx, hz⟩
    · have e : ∃ rest, turnM (gmName 6) (mKill [6] (mIfS (mTst (mOp (fIn true) (mName 6) (mName 1))) (mRet [0, 1] (mName 6)) mNext)) (dT [n]) [some (.own (boxD ds k)), some m, some (.val ltD), none, none, none, none] = .rt (.val (dT [n])) (some (.own (boxD ds k)) :: some m :: rest) := by
        rcases hm with rfl | rfl
        · exact ⟨_, by simp [hin, ht]; rfl⟩
        · exact ⟨_, by simp [hin, ht]; rfl⟩
      obtain ⟨rest, e⟩ := e
      exact ⟨[n], rest, single_word (hl n (by simp)), ht, by rw [e]; rfl⟩
theorem law_word_ex (ds : List Int) (k : Nat) {taken : List (List Nat)} (ht : taken.length ≤ 20) {m : M} (hm : isTaken taken m) : ∃ (w : List Nat) (k' : Nat), isWord w = true ∧ w ∉ taken ∧ F_law_word [.own (boxD ds k), m] = .ok (.val (dT w)) [.own (boxD ds k'), m] := by
  have e3 : List.map (fun k : Nat => D.int (k : Int)) (List.range 3) = List.map D.int [0, 1, 2] := rfl
  have hlen : lettersL.length ≤ 16777216 := by decide
  have hlt : ltD = dT lettersL := by unfold ltD; rw [letters_tx]
  have h0 := word_loop ds hm [0, 1, 2] k
  rw [← e3] at h0
  rcases h0 with ⟨k', e⟩ | ⟨w, k', rest, h1, h2, e⟩
  · obtain ⟨w, rest, h1, h2, e2⟩ := mark_loop ds k' hm lettersL (fun n h => h) (free_letter ht)
    refine ⟨w, k', h1, h2, ?_⟩
    unfold ltD at e e2
    rcases hm with rfl | rfl
    · simp [F_law_word]
      rw [e]
      simp [letters_tx, hlen]
      rw [letters_tx] at e2
      rw [e2]
      simp
    · simp [F_law_word]
      rw [e]
      simp [letters_tx, hlen]
      rw [letters_tx] at e2
      rw [e2]
      simp
  · refine ⟨w, k', h1, h2, ?_⟩
    unfold ltD at e
    rcases hm with rfl | rfl
    · simp [F_law_word]
      rw [e]
      simp
    · simp [F_law_word]
      rw [e]
      simp
end VL
set_option Elab.async false
set_option linter.all false
set_option maxRecDepth 100000
set_option maxHeartbeats 4000000
namespace VL
open PySem PySem.Spec PyProof.Rows L2
noncomputable def F_law_plain_leaves : FN := fnM 2 7 [] (mSeq (mSet 2 (mC (.str "abcdefgh")))
    (mSeq (mSet 3 (mTup (mCons (mC (.str "")) (mCons (mC (.str "m/")) (mCons (mC (.str "m/p/")) mNil)))))
    (mSeq (mSet 4 (mTup (mCons (mC (.str "")) (mCons (mC (.str "n/")) (mCons (mC (.str "n/q/")) mNil)))))
    (mSeq (mOwn 5 (mLst mNil))
    (mSeq (mFor (mRng (mCons (mName 1) mNil)) (gmName 6) (mKill [6] (mIfS (mTst (mOp fLt (mOp fMul (mC (.int 2)) (mName 6)) (mName 1))) (mExpr (mApp (mName 5) (mOp fAdd (mOp fIx (mName 3) (mOp fSub (mName 0) (mC (.int 1)))) (mOp fIx (mName 2) (mName 6))))) (mExpr (mApp (mName 5) (mOp fAdd (mOp fIx (mName 4) (mOp fSub (mName 0) (mC (.int 1)))) (mOp fIx (mName 2) (mName 6))))))))
    (mRet [] (mCB fTuple (mCons (mName 5) mNil))))))))
variable [CM]
def upB : List (List (List Nat)) → Bool
  | a :: b :: r => strLt (tx (pathT a)) (tx (pathT b)) && upB (b :: r)
  | _ => true
def goodB (ls : List (List (List Nat))) (d : Nat) : Bool := decide (2 ≤ ls.length) && decide (ls.length ≤ 8) && decide (1 ≤ d) && decide (d ≤ 3) && (ls.all fun ws => decide (ws.length = d) && ws.all isWord) && upB ls
theorem upB_at : ∀ {ls : List (List (List Nat))}, upB ls = true → ∀ i a b, ls[i]? = some a → ls[i + 1]? = some b → strLt (tx (pathT a)) (tx (pathT b)) = true
  | [], _, i, a, b, h, _ => by simp at h
  | [x], _, i, a, b, _, h => by simp at h
  | x :: y :: r, h, 0, a, b, h1, h2 => by
    have h : (strLt (tx (pathT x)) (tx (pathT y)) && upB (y :: r)) = true := h
    simp only [Bool.and_eq_true] at h
    have e1 : x = a := by simpa using h1
    have e2 : y = b := by simpa using h2
    rw [← e1, ← e2]; exact h.1
  | x :: y :: r, h, i + 1, a, b, h1, h2 => by
    have h : (strLt (tx (pathT x)) (tx (pathT y)) && upB (y :: r)) = true := h
    simp only [Bool.and_eq_true] at h
    exact upB_at h.2 i a b (by simpa using h1) (by simpa using h2)
theorem goodB_of {ls : List (List (List Nat))} {d : Nat} (h : goodB ls d = true) : GoodL ls d := by
  unfold goodB at h
  simp only [Bool.and_eq_true, decide_eq_true_eq, List.all_eq_true] at h
  obtain ⟨⟨⟨⟨⟨h1, h2⟩, h3⟩, h4⟩, h5⟩, h6⟩ := h
  exact ⟨h1, h2, h3, h4, h5, upB_at h6⟩
def plainL (d n : Nat) : List (List (List Nat)) := (List.range n).map fun k => ((if 2 * k < n then [[109], [112]] else [[110], [113]]).take (d - 1)) ++ [[97 + k]]
theorem plain_good : ∀ d, d < 4 → ∀ n, n < 9 → 1 ≤ d → 2 ≤ n → goodB (plainL d n) d = true := by decide +kernel
theorem eight_tx : Str.ofString "abcdefgh" = tx [97, 98, 99, 100, 101, 102, 103, 104] := by decide +kernel
theorem plain_leaves_eq {d n : Nat} (hd : 1 ≤ d ∧ d ≤ 3) (hn : 2 ≤ n ∧ n ≤ 8) : F_law_plain_leaves [.val (.int d), .val (.int n)] = .ok (.val (.tup ((plainL d n).map leafD))) [.val (.int d), .val (.int n)] := by
  have hn4 : n < 4611686018427387904 := by omega
  have e1 : Str.ofString "m/" = tx [109, 47] := by decide +kernel
  have e2 : Str.ofString "m/p/" = tx [109, 47, 112, 47] := by decide +kernel
  have e3 : Str.ofString "n/" = tx [110, 47] := by decide +kernel
  have e4 : Str.ofString "n/q/" = tx [110, 47, 113, 47] := by decide +kernel
  simp [F_law_plain_leaves, hn4]
  have key := loop_pre (g := gmName 6) (b := mKill [6] (mIfS (mTst (mOp fLt (mOp fMul (mC (.int 2)) (mName 6)) (mName 1))) (mExpr (mApp (mName 5) (mOp fAdd (mOp fIx (mName 3) (mOp fSub (mName 0) (mC (.int 1)))) (mOp fIx (mName 2) (mName 6))))) (mExpr (mApp (mName 5) (mOp fAdd (mOp fIx (mName 4) (mOp fSub (mName 0) (mC (.int 1)))) (mOp fIx (mName 2) (mName 6)))))))
    (fun pre : List Nat => [some (.val (.int d)), some (.val (.int n)), some (.val (.str (Str.ofString "abcdefgh"))), some (.val (.tup [.str (Str.ofString ""), .str (Str.ofString "m/"), .str (Str.ofString "m/p/")])), some (.val (.tup [.str (Str.ofString ""), .str (Str.ofString "n/"), .str (Str.ofString "n/q/")])), some (.own (.lst (pre.map fun k => leafD (((if 2 * k < n then [[109], [112]] else [[110], [113]]).take (d - 1)) ++ [[97 + k]])))), none]) (fun k : Nat => D.int k) (List.range n) (by
      intro pre k post e
      have hk : k < n := by
        have : k ∈ List.range n := by rw [e]; simp
        exact List.mem_range.mp this
      have hl : pre.length < 16777216 := by
        have := congrArg List.length e
        simp only [List.length_range, List.length_append, List.length_cons] at this
        omega
      have ak : atI [97, 98, 99, 100, 101, 102, 103, 104] (k : Int) = some (97 + k) := atI_nat (by
        have : k < 8 := by omega
        have h8 : ∀ k, k < 8 → ([97, 98, 99, 100, 101, 102, 103, 104] : List Nat)[k]? = some (97 + k) := by decide
        exact h8 k this)
      have hz : ([97, 98, 99, 100, 101, 102, 103, 104] : List Nat).length ≤ 16777216 := by decide
      have h2 : ((2 : Int) * k < n) = (2 * k < n) := by apply propext; omega
      have a0 : ∀ a b c : D, atI [a, b, c] ((0 : Nat) : Int) = some a := fun a b c => atI_nat (j := 0) rfl
      have a1 : ∀ a b c : D, atI [a, b, c] ((1 : Nat) : Int) = some b := fun a b c => atI_nat (j := 1) rfl
      have a2 : ∀ a b c : D, atI [a, b, c] ((2 : Nat) : Int) = some c := fun a b c => atI_nat (j := 2) rfl
      obtain rfl | rfl | rfl : d = 1 ∨ d = 2 ∨ d = 3 := by omega
      · by_cases hc : 2 * k < n
        · simp [h2, hc, hl, eight_tx, nil_tx, e1, e2, e3, e4, ak, leafD, pathT, TL.joinL]
        · simp [h2, hc, hl, eight_tx, nil_tx, e1, e2, e3, e4, ak, leafD, pathT, TL.joinL]
      · by_cases hc : 2 * k < n
        · simp [h2, hc, hl, eight_tx, nil_tx, e1, e2, e3, e4, ak, leafD, pathT, TL.joinL]
        · simp [h2, hc, hl, eight_tx, nil_tx, e1, e2, e3, e4, ak, leafD, pathT, TL.joinL]
      · by_cases hc : 2 * k < n
        · simp [h2, hc, hl, eight_tx, nil_tx, e1, e2, e3, e4, ak, leafD, pathT, TL.joinL]
        · simp [h2, hc, hl, eight_tx, nil_tx, e1, e2, e3, e4, ak, leafD, pathT, TL.joinL])
  rw [List.map_nil] at key
  rw [key]
  have hz : n ≤ 16777216 := by omega
  simp [hz, plainL]
end VL
set_option Elab.async false
set_option linter.all false
set_option maxRecDepth 100000
set_option maxHeartbeats 4000000
namespace VL
open PySem PySem.Spec PyProof.Rows L2
noncomputable def F_law_leaves : FN := fnM 3 12 [0] (mSeq (mOwn 3 (mLst mNil))
    (mSeq (mFor (mRng (mCons (mName 1) mNil)) (gmName 4) (mKill [4, 5, 6] (mSeq (mOwn 5 (mLst mNil))
    (mSeq (mFor (mRng (mCons (mName 2) mNil)) (gmName 6) (mKill [6] (mIfS (mOrT (mTst (mOp (fEq false) (mName 4) (mOp fSub (mName 1) (mC (.int 1))))) (mTst (mOp fLt (mName 6) (mC (.int 2))))) (mExpr (mApp (mName 5) (mCall F_law_word (mCons (mName 0) (mCons (mName 5) mNil))))) mNext)))
    (mExpr (mApp (mName 3) (mName 5)))))))
    (mSeq (mOwn 7 (mLst mNil))
    (mSeq (mFor (mRng (mCons (mOp fMul (mC (.int 2)) (mName 2)) mNil)) (gmName 8) (mKill [8, 9] (mSeq (mSet 9 (mSM fJoin (mC (.str "/")) (mLc [0] (mIt (mName 3)) (gmName 10) mYes (mOp fIx (mName 10) (mCall F_law_draw (mCons (mName 0) (mCons (mCB fLen (mCons (mName 10) mNil)) mNil)))) [10])))
    (mIfS (mAndT (mTst (mOp (fIn true) (mName 9) (mName 7))) (mTst (mOp fLt (mCB fLen (mCons (mName 7) mNil)) (mName 2)))) (mExpr (mApp (mName 7) (mName 9))) mNext))))
    (mSeq (mFor (mIt (mOp fIx (mName 3) (mNeg (mC (.int 1))))) (gmName 11) (mKill [9, 11] (mSeq (mSet 9 (mSM fJoin (mC (.str "/")) (mOp fAdd (mLc [0] (mIt (mSl (mName 3) mNoPart (mPart (mNeg (mC (.int 1)))))) (gmName 10) mYes (mOp fIx (mName 10) (mC (.int 0))) [10]) (mLst (mCons (mName 11) mNil)))))
    (mIfS (mAndT (mTst (mOp (fIn true) (mName 9) (mName 7))) (mTst (mOp fLt (mCB fLen (mCons (mName 7) mNil)) (mC (.int 2))))) (mExpr (mApp (mName 7) (mName 9))) mNext))))
    (mRet [0] (mCB fTuple (mCons (mCB fSorted (mCons (mName 7) mNil)) mNil))))))))
variable [CM]
structure OkPool (p : List (List Nat)) : Prop where
  wd : ∀ w ∈ p, isWord w = true
  nd : p.Nodup
  lo : 2 ≤ p.length
  hi : p.length ≤ 8
theorem pool_ex (ds : List Int) (k dp mn lv : Nat) (h2 : 2 ≤ mn) (h8 : mn ≤ 8) (m3 : Option M) (rest : Env) :
    ∃ (p : List (List Nat)) (k' : Nat), OkPool p ∧ loopM (gmName 6) (mKill [6] (mIfS (mOrT (mTst (mOp (fEq false) (mName 4) (mOp fSub (mName 1) (mC (.int 1))))) (mTst (mOp fLt (mName 6) (mC (.int 2))))) (mExpr (mApp (mName 5) (mCall F_law_word (mCons (mName 0) (mCons (mName 5) mNil))))) mNext)) ((List.range mn).map fun k : Nat => D.int k)
      (some (.own (boxD ds k)) :: some (.val (.int dp)) :: some (.val (.int mn)) :: m3 :: some (.val (.int lv)) :: some (.own (.lst [])) :: none :: rest) = .nx (some (.own (boxD ds k')) :: some (.val (.int dp)) :: some (.val (.int mn)) :: m3 :: some (.val (.int lv)) :: some (.own (.lst (p.map dT))) :: none :: rest) := by
  obtain ⟨e', he, p, k', rfl, w1, w2, w3, w4⟩ := loop_ix (g := gmName 6) (b := mKill [6] (mIfS (mOrT (mTst (mOp (fEq false) (mName 4) (mOp fSub (mName 1) (mC (.int 1))))) (mTst (mOp fLt (mName 6) (mC (.int 2))))) (mExpr (mApp (mName 5) (mCall F_law_word (mCons (mName 0) (mCons (mName 5) mNil))))) mNext)) (ds := (List.range mn).map fun k : Nat => D.int k)
    (fun i e => ∃ (p : List (List Nat)) (k : Nat), e = some (.own (boxD ds k)) :: some (.val (.int dp)) :: some (.val (.int mn)) :: m3 :: some (.val (.int lv)) :: some (.own (.lst (p.map dT))) :: none :: rest ∧ (∀ w ∈ p, isWord w = true) ∧ p.Nodup ∧ p.length ≤ i ∧ min 2 i ≤ p.length)
    (by
      rintro i d e hd ⟨p, k, rfl, w1, w2, w3, w4⟩
      have hi : i < mn := by
        have := (List.getElem?_eq_some_iff.mp hd).1
        simpa using this
      have hd : d = .int (i : Nat) := by
        rw [List.getElem?_map, List.getElem?_range hi] at hd
        exact (Option.some.inj hd).symm
      subst hd
      obtain ⟨w, k', g1, g2, g3⟩ := law_word_ex ds k (taken := p) (by omega) (.inl rfl)
      have hl : p.length < 16777216 := by omega
      by_cases hc : (lv : Int) = (dp : Int) - 1
      · have hcT : ((lv : Int) = (dp : Int) - 1) = True := eq_true hc
        refine ⟨_, .inl (by simp [hcT, g3, hl]; rfl), p ++ [w], k', by simp, ?_, ?_, by simp; omega, by simp; omega⟩
        · intro v hv
          rcases List.mem_append.mp hv with h | h
          · exact w1 v h
          · rw [List.mem_singleton.mp h]; exact g1
        · exact List.nodup_append.mpr ⟨w2, by simp, fun a ha b hb e => g2 (by rw [List.mem_singleton] at hb; subst hb; subst e; exact ha)⟩
      · by_cases hi2 : i < 2
        · refine ⟨_, .inl (by simp [hc, hi2, g3, hl]; rfl), p ++ [w], k', by simp, ?_, ?_, by simp; omega, by simp; omega⟩
          · intro v hv
            rcases List.mem_append.mp hv with h | h
            · exact w1 v h
            · rw [List.mem_singleton.mp h]; exact g1
          · exact List.nodup_append.mpr ⟨w2, by simp, fun a ha b hb e => g2 (by rw [List.mem_singleton] at hb; subst hb; subst e; exact ha)⟩
        · exact ⟨_, .inl (by simp [hc, hi2]), p, k, rfl, w1, w2, by omega, by omega⟩)
    _ ⟨[], k, rfl, (by intro w hw; cases hw), List.nodup_nil, Nat.le_refl _, (by simp)⟩
  rw [List.length_map, List.length_range] at w3 w4
  exact ⟨p, k', ⟨w1, w2, by omega, by omega⟩, he⟩
def poolD (p : List (List Nat)) : D := .lst (p.map dT)
theorem pools_ex (ds : List Int) (k dp mn : Nat) (hdp : dp ≤ 3) (h2 : 2 ≤ mn) (h8 : mn ≤ 8) :
    ∃ (ps : List (List (List Nat))) (k' : Nat), ps.length = dp ∧ (∀ p ∈ ps, OkPool p) ∧ loopM (gmName 4) (mKill [4, 5, 6] (mSeq (mOwn 5 (mLst mNil))
    (mSeq (mFor (mRng (mCons (mName 2) mNil)) (gmName 6) (mKill [6] (mIfS (mOrT (mTst (mOp (fEq false) (mName 4) (mOp fSub (mName 1) (mC (.int 1))))) (mTst (mOp fLt (mName 6) (mC (.int 2))))) (mExpr (mApp (mName 5) (mCall F_law_word (mCons (mName 0) (mCons (mName 5) mNil))))) mNext)))
    (mExpr (mApp (mName 3) (mName 5)))))) ((List.range dp).map fun k : Nat => D.int k)
      [some (.own (boxD ds k)), some (.val (.int dp)), some (.val (.int mn)), some (.own (.lst [])), none, none, none, none, none, none, none, none] = .nx [some (.own (boxD ds k')), some (.val (.int dp)), some (.val (.int mn)), some (.own (.lst (ps.map poolD))), none, none, none, none, none, none, none, none] := by
  obtain ⟨e', he, ps, k', rfl, w1, w2⟩ := loop_ix (g := gmName 4) (b := (mKill [4, 5, 6] (mSeq (mOwn 5 (mLst mNil))
    (mSeq (mFor (mRng (mCons (mName 2) mNil)) (gmName 6) (mKill [6] (mIfS (mOrT (mTst (mOp (fEq false) (mName 4) (mOp fSub (mName 1) (mC (.int 1))))) (mTst (mOp fLt (mName 6) (mC (.int 2))))) (mExpr (mApp (mName 5) (mCall F_law_word (mCons (mName 0) (mCons (mName 5) mNil))))) mNext)))
    (mExpr (mApp (mName 3) (mName 5))))))) (ds := (List.range dp).map fun k : Nat => D.int k)
    (fun i e => ∃ (ps : List (List (List Nat))) (k : Nat), e = [some (.own (boxD ds k)), some (.val (.int dp)), some (.val (.int mn)), some (.own (.lst (ps.map poolD))), none, none, none, none, none, none, none, none] ∧ ps.length = i ∧ ∀ p ∈ ps, OkPool p)
    (by
      rintro i d e hd ⟨ps, k, rfl, w1, w2⟩
      have hi : i < dp := by
        have := (List.getElem?_eq_some_iff.mp hd).1
        simpa using this
      have hd : d = .int (i : Nat) := by
        rw [List.getElem?_map, List.getElem?_range hi] at hd
        exact (Option.some.inj hd).symm
      subst hd
      obtain ⟨p, k', g1, g2⟩ := pool_ex ds k dp mn i h2 h8 (some (.own (.lst (ps.map poolD)))) [none, none, none, none, none]
      have hm : mn < 4611686018427387904 := by omega
      have hl : ps.length < 16777216 := by omega
      refine ⟨_, .inl ?_, ps ++ [p], k', rfl, by simp; omega, fun q hq => ?_⟩
      · simp [hm]
        rw [g2]
        simp [hl, poolD]
      · rcases List.mem_append.mp hq with h | h
        · exact w2 q h
        · rw [List.mem_singleton.mp h]; exact g1)
    _ ⟨[], k, rfl, rfl, (by intro p hp; cases hp)⟩
  rw [List.length_map, List.length_range] at w1
  exact ⟨ps, k', w1, w2, he⟩
theorem pick_ex (ds : List Int) (dp mn : Nat) (m3 m7 m8 : Option M) : ∀ (ps : List (List (List Nat))) (k : Nat), (∀ p ∈ ps, OkPool p) →
    ∃ (ws : List (List Nat)) (k' : Nat), ws.length = ps.length ∧ (∀ w ∈ ws, isWord w = true) ∧ compM (gmName 10) mYes (mOp fIx (mName 10) (mCall F_law_draw (mCons (mName 0) (mCons (mCB fLen (mCons (mName 10) mNil)) mNil)))) [10] (ps.map poolD) [some (.own (boxD ds k)), some (.val (.int dp)), some (.val (.int mn)), m3, none, none, none, m7, m8, none, none, none] = .ok (ws.map dT) [some (.own (boxD ds k')), some (.val (.int dp)), some (.val (.int mn)), m3, none, none, none, m7, m8, none, none, none]
  | [], k, _ => ⟨[], k, rfl, (by intro w hw; cases hw), rfl⟩
  | p :: ps, k, h => by
    have hp := h p (by simp)
    obtain ⟨r, hr, er⟩ := draw_ex ds k (m := (p.length : Int)) (by have := hp.lo; omega)
    have hr2 : r < p.length := by omega
    have ax : atI (p.map dT) (r : Int) = some (dT p[r]) := atI_nat (by rw [List.getElem?_map, List.getElem?_eq_getElem hr2]; rfl)
    have hz : ¬ ((p.length : Int) = 0) := by have := hp.lo; omega
    have hz2 : p ≠ [] := by have := hp.lo; intro e; rw [e] at this; simp at this
    have hl : p.length ≤ 16777216 := by have := hp.hi; omega
    obtain ⟨ws, k', h1, h2, h3⟩ := pick_ex ds dp mn m3 m7 m8 ps (k + 1) fun q hq => h q (List.mem_cons_of_mem _ hq)
    refine ⟨p[r] :: ws, k', by simp [h1], fun w hw => ?_, ?_⟩
    · rcases List.mem_cons.mp hw with rfl | hw
      · exact hp.wd _ (List.getElem_mem hr2)
      · exact h2 w hw
    · have hd := law_draw_eq (ds := ds) (k := k) (m := (p.length : Int)) hz
      rw [List.map_cons, comp_cons]
      have ht : turnC (gmName 10) mYes (mOp fIx (mName 10) (mCall F_law_draw (mCons (mName 0) (mCons (mCB fLen (mCons (mName 10) mNil)) mNil)))) [10] (poolD p) [some (.own (boxD ds k)), some (.val (.int dp)), some (.val (.int mn)), m3, none, none, none, m7, m8, none, none, none] = .ok (some (dT p[r])) [some (.own (boxD ds (k + 1))), some (.val (.int dp)), some (.val (.int mn)), m3, none, none, none, m7, m8, none, none, none] := by
        simp [poolD, hl, hd, er, ax]
      rw [ht]
      simp [h3]
structure OkPaths (l : List (List (List Nat))) (d : Nat) : Prop where
  wd : ∀ ws ∈ l, ws.length = d ∧ ∀ w ∈ ws, isWord w = true
  nd : l.Nodup
theorem OkPaths.clean {l : List (List (List Nat))} {d : Nat} (o : OkPaths l d) : ∀ ws ∈ l, ∀ w ∈ ws, clean w := fun ws h w hw => (isWord_clean ((o.wd ws h).2 w hw)).1
theorem in_paths {l : List (List (List Nat))} {d : Nat} (o : OkPaths l d) {x : List (List Nat)} (hx : ∀ w ∈ x, isWord w = true) : inSeq (dT (pathT x)) (l.map leafD) = some (decide (x ∈ l)) := by
  have h := inSeq_tx (pathT x) (l.map pathT)
  rw [List.map_map] at h
  rw [show l.map leafD = List.map (dT ∘ pathT) l from rfl, h]
  congr 1
  refine decide_eq_decide.mpr ⟨fun h => ?_, fun h => List.mem_map.mpr ⟨x, h, rfl⟩⟩
  obtain ⟨y, hy, e⟩ := List.mem_map.mp h
  have := pathT_inj (o.clean y hy) (fun w hw => (isWord_clean (hx w hw)).1) e
  rw [← this]; exact hy
theorem OkPaths.snoc {l : List (List (List Nat))} {d : Nat} (o : OkPaths l d) {x : List (List Nat)} (hl : x.length = d) (hx : ∀ w ∈ x, isWord w = true) (hn : x ∉ l) : OkPaths (l ++ [x]) d := by
  refine ⟨fun ws h => ?_, List.nodup_append.mpr ⟨o.nd, by simp, fun a ha b hb e => hn (by rw [List.mem_singleton] at hb; subst hb; subst e; exact ha)⟩⟩
  rcases List.mem_append.mp h with h | h
  · exact o.wd ws h
  · rw [List.mem_singleton.mp h]; exact ⟨hl, hx⟩
theorem join_path {ws : List (List Nat)} (h : szP ws ≤ 1000000) : joinS (tx [47]) (ws.map tx) = some (.val (.str (tx (pathT ws)))) := by
  have h3 : ((ws.map tx).map (·.length)).sum + (ws.map tx).length * (tx [47]).length ≤ 16777216 := by
    have : (ws.map tx).map (·.length) = ws.map List.length := by rw [List.map_map]; exact List.map_congr_left fun x _ => tx_len x
    rw [this]
    simp only [tx_len, List.length_map, List.length_singleton, Nat.mul_one]
    unfold szP at h; omega
  rw [joinS_of h3]
  have j : Txt.join (tx [47]) (ws.map tx) = tx (pathT ws) := SX.join_S [47] ws
  rw [j]
theorem word_sz {ws : List (List Nat)} (h : ∀ w ∈ ws, isWord w = true) (hl : ws.length ≤ 1000) : szP ws ≤ 1000000 := by
  have := szP_le (n := 8) (ws := ws) fun w hw => (isWord_clean (h w hw)).2
  omega
theorem paths_ex (ds : List Int) (k dp mn n : Nat) (hmn : mn ≤ 8) {ps : List (List (List Nat))} {q0 : M} (hq0 : q0 = .own (.lst (ps.map poolD)) ∨ q0 = .val (.lst (ps.map poolD))) (hps : ∀ p ∈ ps, OkPool p) (hpl : ps.length ≤ 3) :
    ∃ (l : List (List (List Nat))) (k' : Nat) (q : M), (q = .own (.lst (ps.map poolD)) ∨ q = .val (.lst (ps.map poolD))) ∧ OkPaths l ps.length ∧ l.length ≤ mn ∧ loopM (gmName 8) (mKill [8, 9] (mSeq (mSet 9 (mSM fJoin (mC (.str "/")) (mLc [0] (mIt (mName 3)) (gmName 10) mYes (mOp fIx (mName 10) (mCall F_law_draw (mCons (mName 0) (mCons (mCB fLen (mCons (mName 10) mNil)) mNil)))) [10])))
    (mIfS (mAndT (mTst (mOp (fIn true) (mName 9) (mName 7))) (mTst (mOp fLt (mCB fLen (mCons (mName 7) mNil)) (mName 2)))) (mExpr (mApp (mName 7) (mName 9))) mNext))) ((List.range n).map fun k : Nat => D.int k)
      [some (.own (boxD ds k)), some (.val (.int dp)), some (.val (.int mn)), some q0, none, none, none, some (.own (.lst [])), none, none, none, none] = .nx [some (.own (boxD ds k')), some (.val (.int dp)), some (.val (.int mn)), some q, none, none, none, some (.own (.lst (l.map leafD))), none, none, none, none] := by
  obtain ⟨e', he, l, k', q, rfl, hq, w1, w2⟩ := loop_ix (g := gmName 8) (b := (mKill [8, 9] (mSeq (mSet 9 (mSM fJoin (mC (.str "/")) (mLc [0] (mIt (mName 3)) (gmName 10) mYes (mOp fIx (mName 10) (mCall F_law_draw (mCons (mName 0) (mCons (mCB fLen (mCons (mName 10) mNil)) mNil)))) [10])))
    (mIfS (mAndT (mTst (mOp (fIn true) (mName 9) (mName 7))) (mTst (mOp fLt (mCB fLen (mCons (mName 7) mNil)) (mName 2)))) (mExpr (mApp (mName 7) (mName 9))) mNext)))) (ds := (List.range n).map fun k : Nat => D.int k)
    (fun i e => ∃ (l : List (List (List Nat))) (k : Nat) (q : M), e = [some (.own (boxD ds k)), some (.val (.int dp)), some (.val (.int mn)), some q, none, none, none, some (.own (.lst (l.map leafD))), none, none, none, none] ∧ (q = .own (.lst (ps.map poolD)) ∨ q = .val (.lst (ps.map poolD))) ∧ OkPaths l ps.length ∧ l.length ≤ mn)
    (by
      rintro i d e hd ⟨l, k, q, rfl, hq, w1, w2⟩
      have hi : i < n := by
        have := (List.getElem?_eq_some_iff.mp hd).1
        simpa using this
      have hd : d = .int (i : Nat) := by
        rw [List.getElem?_map, List.getElem?_range hi] at hd
        exact (Option.some.inj hd).symm
      subst hd
      obtain ⟨ws, k', g1, g2, g3⟩ := pick_ex ds dp mn (some (.val (.lst (ps.map poolD)))) (some (.own (.lst (l.map leafD)))) (some (.val (.int (i : Nat)))) ps k hps
      have hj := join_path (word_sz g2 (by omega))
      have hin := in_paths w1 g2
      have hl : l.length < 16777216 := by omega
      have hl2 : l.length ≤ 16777216 := by omega
      have hw : ws.length ≤ 16777216 := by omega
      by_cases h1 : ws ∈ l
      · refine ⟨_, .inl ?_, l, k', _, rfl, .inr rfl, w1, w2⟩
        rcases hq with rfl | rfl <;> simp <;> rw [g3] <;>
        simp [slash_tx, hj, hin, h1, hw]
      · by_cases h2 : l.length < mn
        · refine ⟨_, .inl ?_, l ++ [ws], k', _, rfl, .inr rfl, w1.snoc g1 g2 h1, by simp; omega⟩
          rcases hq with rfl | rfl <;> simp <;> rw [g3] <;>
          simp [slash_tx, hj, hin, h1, hw, hl, hl2, h2, leafD]
        · refine ⟨_, .inl ?_, l, k', _, rfl, .inr rfl, w1, w2⟩
          rcases hq with rfl | rfl <;> simp <;> rw [g3] <;>
          simp [slash_tx, hj, hin, h1, hw, hl, hl2, h2])
    _ ⟨[], k, q0, rfl, hq0, ⟨(by intro w hw; cases hw), List.nodup_nil⟩, Nat.zero_le _⟩
  exact ⟨l, k', q, hq, w1, w2, he⟩
theorem cutD_init (xs : List D) (x : D) : cutD (xs ++ [x]) none (some (-1)) = xs := by
  unfold cutD HT.sIx
  simp
  have : (-1 + ((xs.length : Int) + 1)).toNat = xs.length := by omega
  rw [this]
  simp
theorem nodup01 {α : Type} : ∀ {l : List α} {a b : α}, l.Nodup → l[0]? = some a → l[1]? = some b → a ≠ b
  | [], _, _, _, h, _ => by simp at h
  | [_], _, _, _, _, h => by simp at h
  | x :: y :: r, a, b, hn, h1, h2 => by
    have e1 : x = a := by simpa using h1
    have e2 : y = b := by simpa using h2
    rw [← e1, ← e2]
    intro e
    have := (List.nodup_cons.mp hn).1
    exact this (by rw [e]; simp)
def hd1 (p : List (List Nat)) : List Nat := p.headD []
def heads (ps : List (List (List Nat))) : List (List Nat) := ps.map hd1
theorem heads_words {ps : List (List (List Nat))} (h : ∀ p ∈ ps, OkPool p) : ∀ w ∈ heads ps, isWord w = true := by
  intro w hw
  obtain ⟨p, hp, rfl⟩ := List.mem_map.mp hw
  have o := h p hp
  cases p with
  | nil => have := o.lo; simp at this
  | cons a r => exact o.wd a (by simp [hd1])
theorem paths2_ex (ds : List Int) (k dp mn : Nat) {ps : List (List (List Nat))} {la : List (List Nat)} {q : M} (hq : q = .own (.lst ((ps ++ [la]).map poolD)) ∨ q = .val (.lst ((ps ++ [la]).map poolD))) (hps : ∀ p ∈ ps, OkPool p) (hla : OkPool la) (hpl : ps.length ≤ 2) {l0 : List (List (List Nat))} (h0 : OkPaths l0 (ps.length + 1)) {mx : Nat} (hmx : 2 ≤ mx ∧ mx ≤ 8) (h08 : l0.length ≤ mx) :
    ∃ (l : List (List (List Nat))), OkPaths l (ps.length + 1) ∧ 2 ≤ l.length ∧ l.length ≤ mx ∧ loopM (gmName 11) (mKill [9, 11] (mSeq (mSet 9 (mSM fJoin (mC (.str "/")) (mOp fAdd (mLc [0] (mIt (mSl (mName 3) mNoPart (mPart (mNeg (mC (.int 1)))))) (gmName 10) mYes (mOp fIx (mName 10) (mC (.int 0))) [10]) (mLst (mCons (mName 11) mNil)))))
    (mIfS (mAndT (mTst (mOp (fIn true) (mName 9) (mName 7))) (mTst (mOp fLt (mCB fLen (mCons (mName 7) mNil)) (mC (.int 2))))) (mExpr (mApp (mName 7) (mName 9))) mNext))) (la.map dT)
      [some (.own (boxD ds k)), some (.val (.int dp)), some (.val (.int mn)), some q, none, none, none, some (.own (.lst (l0.map leafD))), none, none, none, none] = .nx [some (.own (boxD ds k)), some (.val (.int dp)), some (.val (.int mn)), some q, none, none, none, some (.own (.lst (l.map leafD))), none, none, none, none] := by
  obtain ⟨e', he, l, rfl, w1, w2, w3⟩ := loop_ix (g := gmName 11) (b := (mKill [9, 11] (mSeq (mSet 9 (mSM fJoin (mC (.str "/")) (mOp fAdd (mLc [0] (mIt (mSl (mName 3) mNoPart (mPart (mNeg (mC (.int 1)))))) (gmName 10) mYes (mOp fIx (mName 10) (mC (.int 0))) [10]) (mLst (mCons (mName 11) mNil)))))
    (mIfS (mAndT (mTst (mOp (fIn true) (mName 9) (mName 7))) (mTst (mOp fLt (mCB fLen (mCons (mName 7) mNil)) (mC (.int 2))))) (mExpr (mApp (mName 7) (mName 9))) mNext)))) (ds := la.map dT)
    (fun i e => ∃ (l : List (List (List Nat))), e = [some (.own (boxD ds k)), some (.val (.int dp)), some (.val (.int mn)), some q, none, none, none, some (.own (.lst (l.map leafD))), none, none, none, none] ∧ OkPaths l (ps.length + 1) ∧ l.length ≤ mx ∧ ∀ j, j < i → ∀ w, la[j]? = some w → heads ps ++ [w] ∈ l ∨ 2 ≤ l.length)
    (by
      rintro i d e hd ⟨l, rfl, w1, w2, w3⟩
      have hi : i < la.length := by
        have := (List.getElem?_eq_some_iff.mp hd).1
        simpa using this
      obtain ⟨w, hw⟩ : ∃ w, la[i]? = some w := ⟨_, List.getElem?_eq_getElem hi⟩
      have hd : d = dT w := by
        rw [List.getElem?_map, hw] at hd
        exact (Option.some.inj hd).symm
      subst hd
      have hww : isWord w = true := hla.wd w (List.mem_of_getElem? hw)
      have g2 : ∀ v ∈ heads ps ++ [w], isWord v = true := by
        intro v hv
        rcases List.mem_append.mp hv with h | h
        · exact heads_words hps v h
        · rw [List.mem_singleton.mp h]; exact hww
      have gl : (heads ps ++ [w]).length = ps.length + 1 := by simp [heads]
      have hj := join_path (word_sz g2 (by rw [gl]; omega))
      have hin := in_paths w1 g2
      have hl : l.length < 16777216 := by omega
      have hl2 : l.length ≤ 16777216 := by omega
      have hpz : ps.length + 1 ≤ 16777216 := by omega
      have hpy : ps.length ≤ 16777216 := by omega
      have hstr : strsOf ((ps.map fun p => dT (hd1 p)) ++ [dT w]) = some ((heads ps).map tx ++ [tx w]) := by
        have := strsOf_mapf tx (heads ps ++ [w])
        rw [List.map_append, List.map_append] at this
        unfold heads at this ⊢
        rw [List.map_map] at this
        exact this
      rw [List.map_append] at hj
      have hj : joinS (tx [47]) ((heads ps).map tx ++ [tx w]) = some (.val (.str (tx (pathT (heads ps ++ [w]))))) := hj
      have hcut : cutD (ps.map poolD ++ [poolD la]) none (some (-1)) = ps.map poolD := cutD_init _ _
      have hc : ∀ m8 : M, compM (gmName 10) mYes (mOp fIx (mName 10) (mC (.int 0))) [10] (ps.map poolD) [some (.own (boxD ds k)), some (.val (.int dp)), some (.val (.int mn)), some m8, none, none, none, some (.own (.lst (l.map leafD))), none, none, none, some (.val (dT w))] = .ok (ps.map fun p => dT (hd1 p)) [some (.own (boxD ds k)), some (.val (.int dp)), some (.val (.int mn)), some m8, none, none, none, some (.own (.lst (l.map leafD))), none, none, none, some (.val (dT w))] := by
        intro m8
        rw [comp_map (en := poolD) (f := fun p => dT (hd1 p))]
        intro p hp
        have o := hps p hp
        cases p with
        | nil => have := o.lo; simp at this
        | cons a r =>
          have a0 : atI ((a :: r).map dT) 0 = some (dT a) := atI_nat (j := 0) rfl
          rw [List.map_cons] at a0
          simp [poolD, a0, hd1]
      by_cases h1 : heads ps ++ [w] ∈ l
      · refine ⟨_, .inl ?_, l, rfl, w1, w2, ?_⟩
        · rcases hq with rfl | rfl
          · simp [hcut]
            rw [hc]
            simp [slash_tx, hpy, hpz, hstr, hj, hin, h1]
          · simp [hcut]
            rw [hc]
            simp [slash_tx, hpy, hpz, hstr, hj, hin, h1]
        · intro j hj v hv
          by_cases e : j = i
          · subst e
            rw [hw] at hv; cases hv
            exact .inl h1
          · exact w3 j (by omega) v hv
      · by_cases h2 : l.length < 2
        · refine ⟨_, .inl ?_, l ++ [heads ps ++ [w]], rfl, w1.snoc gl g2 h1, by simp; omega, ?_⟩
          · rcases hq with rfl | rfl
            · simp [hcut]
              rw [hc]
              simp [slash_tx, hpy, hpz, hstr, hj, hin, h1, hl, hl2, h2, leafD]
            · simp [hcut]
              rw [hc]
              simp [slash_tx, hpy, hpz, hstr, hj, hin, h1, hl, hl2, h2, leafD]
          · intro j hj v hv
            by_cases e : j = i
            · subst e
              rw [hw] at hv; cases hv
              exact .inl (by simp)
            · rcases w3 j (by omega) v hv with h | h
              · exact .inl (List.mem_append_left _ h)
              · exact .inr (by simp; omega)
        · refine ⟨_, .inl ?_, l, rfl, w1, w2, fun j hj v hv => .inr (by omega)⟩
          rcases hq with rfl | rfl
          · simp [hcut]
            rw [hc]
            simp [slash_tx, hpy, hpz, hstr, hj, hin, h1, hl, hl2, h2]
          · simp [hcut]
            rw [hc]
            simp [slash_tx, hpy, hpz, hstr, hj, hin, h1, hl, hl2, h2])
    _ ⟨l0, rfl, h0, h08, (by intro j hj; omega)⟩
  refine ⟨l, w1, ?_, w2, he⟩
  rw [List.length_map] at w3
  by_cases h2 : 2 ≤ l.length
  · exact h2
  · have hlo := hla.lo
    obtain ⟨a, ha⟩ : ∃ a, la[0]? = some a := ⟨_, List.getElem?_eq_getElem (by omega)⟩
    obtain ⟨b, hb⟩ : ∃ b, la[1]? = some b := ⟨_, List.getElem?_eq_getElem (by omega)⟩
    have ha2 := (w3 0 (by omega) a ha).resolve_right h2
    have hb2 := (w3 1 (by omega) b hb).resolve_right h2
    have hne : a ≠ b := nodup01 hla.nd ha hb
    have := nodup_len [heads ps ++ [a], heads ps ++ [b]] l (by simp [hne]) (by
      intro x hx
      simp at hx
      rcases hx with rfl | rfl
      · exact ha2
      · exact hb2)
    simpa using this
end VL
set_option Elab.async false
set_option linter.all false
set_option maxRecDepth 100000
set_option maxHeartbeats 4000000
namespace VL
open PySem PySem.Spec PyProof.Rows L2
variable [CM]
def unT (t : List Nat) : List (List Nat) := TL.spl [47] 0 [] t
theorem unT_path {x : List (List Nat)} (h : x ≠ []) (hc : ∀ w ∈ x, clean w) : unT (pathT x) = x := SX.spl_join h fun p hp => (hc p hp).2
theorem lt_of_cps : ∀ a b : List Nat, Spec.ltCps a b = true → a < b
  | [], [], h => by cases h
  | [], _ :: _, _ => by simp
  | _ :: _, [], h => by cases h
  | a :: r, b :: t, h => by
    simp only [Spec.ltCps, Bool.or_eq_true, decide_eq_true_eq, Bool.and_eq_true, beq_iff_eq] at h
    rw [List.cons_lt_cons_iff]
    rcases h with h | ⟨h1, h2⟩
    · exact .inl h
    · exact .inr ⟨h1, lt_of_cps r t h2⟩
theorem sort_good {l : List (List (List Nat))} {d : Nat} (o : OkPaths l d) (h2 : 2 ≤ l.length) (h8 : l.length ≤ 8) (hd : 1 ≤ d ∧ d ≤ 3) : ∃ l', GoodL l' d ∧ l'.length = l.length ∧ (sortL (l.map pathT)).map dT = l'.map leafD := by
  have hp := sortL_perm (l.map pathT)
  have back : ∀ t ∈ sortL (l.map pathT), ∃ x ∈ l, pathT x = t ∧ unT t = x := by
    intro t ht
    obtain ⟨x, hx, e⟩ := List.mem_map.mp (hp.mem_iff.mp ht)
    refine ⟨x, hx, e, ?_⟩
    rw [← e]
    refine unT_path ?_ (o.clean x hx)
    intro z
    have := (o.wd x hx).1
    rw [z] at this
    simp at this; omega
  have hlen : (sortL (l.map pathT)).length = l.length := by rw [hp.length_eq, List.length_map]
  have hnd : (sortL (l.map pathT)).Nodup := by
    refine hp.nodup_iff.mpr ?_
    have := o.nd
    rw [List.nodup_iff_pairwise_ne] at this ⊢
    rw [List.pairwise_map]
    refine this.imp_of_mem fun {a b} ha hb ne e => ne (pathT_inj (o.clean a ha) (o.clean b hb) e)
  have hpw := sortL_pw (l.map pathT)
  generalize sortL (l.map pathT) = s at back hlen hnd hpw
  refine ⟨s.map unT, ⟨by simpa [hlen] using h2, by simpa [hlen] using h8, hd.1, hd.2, ?_, ?_⟩, by simp [hlen], ?_⟩
  · intro ws hws
    obtain ⟨t, ht, rfl⟩ := List.mem_map.mp hws
    obtain ⟨x, hx, _, e⟩ := back t ht
    rw [e]; exact o.wd x hx
  · intro i a b ha hb
    rw [List.getElem?_map] at ha hb
    cases h1 : s[i]? with
    | none => rw [h1] at ha; cases ha
    | some t =>
      cases h3 : s[i + 1]? with
      | none => rw [h3] at hb; cases hb
      | some u =>
        rw [h1] at ha; rw [h3] at hb
        cases ha; cases hb
        obtain ⟨x, hx, e1, e2⟩ := back t (List.mem_of_getElem? h1)
        obtain ⟨y, hy, e3, e4⟩ := back u (List.mem_of_getElem? h3)
        rw [e2, e4, e1, e3]
        obtain ⟨i1, g1⟩ := List.getElem?_eq_some_iff.mp h1
        obtain ⟨i2, g2⟩ := List.getElem?_eq_some_iff.mp h3
        have hle : leL t u = true := by
          have := List.pairwise_iff_getElem.mp hpw i (i + 1) i1 i2 (by omega)
          rwa [g1, g2] at this
        have hne : t ≠ u := by
          have := List.pairwise_iff_getElem.mp (List.nodup_iff_pairwise_ne.mp hnd) i (i + 1) i1 i2 (by omega)
          rwa [g1, g2] at this
        have hlt : Spec.ltCps t u = true := by
          cases hz : Spec.ltCps t u with
          | true => rfl
          | false => exact absurd (leL_anti t u hle (by unfold leL; rw [hz]; rfl)) hne
        show strLt (tx t) (tx u) = true
        unfold strLt
        simpa using lt_of_cps t u hlt
  · rw [List.map_map]
    refine List.map_congr_left fun t ht => ?_
    obtain ⟨x, hx, e1, e2⟩ := back t ht
    show dT t = leafD (unT t)
    rw [e2]; unfold leafD; rw [e1]
theorem law_leaves_ex (ds : List Int) (k dp mn : Nat) (hdp : 1 ≤ dp ∧ dp ≤ 3) (h2 : 2 ≤ mn) (h8 : mn ≤ 8) : ∃ (l : List (List (List Nat))) (k' : Nat), GoodL l dp ∧ l.length ≤ mn ∧ F_law_leaves [.own (boxD ds k), .val (.int dp), .val (.int mn)] = .ok (.val (.tup (l.map leafD))) [.own (boxD ds k'), .val (.int dp), .val (.int mn)] := by
  obtain ⟨ps, k1, g1, g2, g3⟩ := pools_ex ds k dp mn hdp.2 h2 h8
  have hpl : ps.length ≤ 3 := by omega
  obtain ⟨l1, k2, q, hq, o1, o2, g4⟩ := paths_ex ds k1 dp mn (2 * mn) h8 (.inl rfl) g2 hpl
  obtain ⟨ini, la, rfl⟩ : ∃ ini la, ps = ini ++ [la] := by
    rcases List.eq_nil_or_concat ps with rfl | ⟨ini, la, rfl⟩
    · simp at g1; omega
    · exact ⟨ini, la, by simp⟩
  have e1 : (ini ++ [la]).length = ini.length + 1 := by simp
  rw [e1] at o1 g1
  obtain ⟨l2, p1, p2, p3, g5⟩ := paths2_ex ds k2 dp mn hq (fun p hp => g2 p (by simp [hp])) (g2 la (by simp)) (by omega) o1 (mx := mn) ⟨h2, h8⟩ (by omega)
  obtain ⟨l3, q1, q2, q3⟩ := sort_good p1 p2 (by omega) (by omega)
  refine ⟨l3, k2, by rw [← g1]; exact q1, by omega, ?_⟩
  have hd4 : dp < 4611686018427387904 := by omega
  have hm4 : 2 * mn < 4611686018427387904 := by omega
  have hm5 : (2 : Int) * (mn : Int) = ((2 * mn : Nat) : Int) := by simp
  have al : atI ((ini ++ [la]).map poolD) (-1) = some (poolD la) := by rw [List.map_append]; exact atI_last _ _
  have hs : sortS ((l2.map pathT).map tx) = some (.tmp (.lst ((sortL (l2.map pathT)).map dT))) := sortS_tx (by simp; omega)
  have hs2 : strsOf (l2.map leafD) = some ((l2.map pathT).map tx) := by rw [strsOf_leaf, List.map_map]; rfl
  have hl3 : l3.length ≤ 16777216 := by omega
  simp [F_law_leaves, hd4, -List.map_append]
  rw [g3]
  simp [-List.map_append]
  rw [hm5]
  simp only [rng1_nat hm4]
  simp [-List.map_append]
  rw [g4]
  rcases hq with rfl | rfl
  · simp [-List.map_append, al]
    simp [-List.map_append, poolD]
    rw [g5]
    simp [hs2, hs, q3, hl3, -List.map_map]
  · simp [-List.map_append, al]
    simp [-List.map_append, poolD]
    rw [g5]
    simp [hs2, hs, q3, hl3, -List.map_map]
end VL
set_option Elab.async false
set_option linter.all false
set_option maxRecDepth 100000
set_option maxHeartbeats 4000000
namespace VL
open PySem PySem.Spec PyProof.Rows L2
noncomputable def F_law_wide : FN := fnM 3 13 [] (mSeq (mOwn 3 (mCall F_law_box (mCons (mName 0) (mCons (mName 1) mNil))))
    (mSeq (mOwn 4 (mLst mNil))
    (mSeq (mOwn 5 (mLst mNil))
    (mSeq (mKill [2] (mFor (mRng (mCons (mOp fAdd (mC (.int 1)) (mCall F_law_draw (mCons (mName 3) (mCons (mC (.int 3)) mNil)))) mNil)) (gmName 6) (mKill [6, 7, 8, 9, 10, 11, 12] (mSeq (mOwn 7 (mCall F_law_box (mCons (mName 0) (mCons (mOp fAdd (mOp fAdd (mName 1) (mC (.int 1))) (mName 6)) mNil))))
    (mKill [8, 9, 10, 11, 12] (mIfS (mTst (mOp fGe (mName 2) (mC (.int 2)))) (mSeq (mSet 8 (mOp fAdd (mC (.int 1)) (mCall F_law_draw (mCons (mName 7) (mCons (mC (.int 3)) mNil)))))
    (mSeq (mSet 9 (mCB fMin2 (mCons (mOp fAdd (mC (.int 2)) (mCall F_law_draw (mCons (mName 7) (mCons (mC (.int 7)) mNil)))) (mCons (mName 2) mNil))))
    (mSeq (mSet 10 (mOp (fEq false) (mCall F_law_draw (mCons (mName 7) (mCons (mC (.int 3)) mNil))) (mC (.int 0))))
    (mSeq (mSet 11 (mIf (mTst (mName 10)) (mCall F_law_plain_leaves (mCons (mName 8) (mCons (mName 9) mNil))) (mCall F_law_leaves (mCons (mName 7) (mCons (mName 8) (mCons (mName 9) mNil))))))
    (mSeq (mSet 2 (mOp fDiv (mName 2) (mCB fLen (mCons (mName 11) mNil))))
    (mSeq (mSet 12 (mCall F_law_word (mCons (mName 7) (mCons (mName 5) mNil))))
    (mSeq (mExpr (mApp (mName 5) (mName 12)))
    (mExpr (mApp (mName 4) (mTup (mCons (mName 12) (mCons (mName 11) mNil)))))))))))) mNext))))))
    (mRet [] (mCB fTuple (mCons (mName 4) mNil)))))))
variable [CM]
structure PartD (ms : List Dim) (lf : Nat) : Prop where
  good : ∀ m ∈ ms, isWord m.nm = true ∧ GoodL m.ls m.dp
  nd : (ms.map (·.nm)).Nodup
  few : cellsN ms * lf ≤ 48
  one : 1 ≤ lf
theorem wide_turn (ns : List Int) (f0 lf i k0 : Nat) (ds0 : List Int) {ms : List Dim} (h : PartD ms lf) (hl : ms.length ≤ 3) (h2 : 2 ≤ lf) :
    ∃ (m : Dim) (lf' : Nat), PartD (ms ++ [m]) lf' ∧ turnM (gmName 6) (mKill [6, 7, 8, 9, 10, 11, 12] (mSeq (mOwn 7 (mCall F_law_box (mCons (mName 0) (mCons (mOp fAdd (mOp fAdd (mName 1) (mC (.int 1))) (mName 6)) mNil))))
    (mKill [8, 9, 10, 11, 12] (mIfS (mTst (mOp fGe (mName 2) (mC (.int 2)))) (mSeq (mSet 8 (mOp fAdd (mC (.int 1)) (mCall F_law_draw (mCons (mName 7) (mCons (mC (.int 3)) mNil)))))
    (mSeq (mSet 9 (mCB fMin2 (mCons (mOp fAdd (mC (.int 2)) (mCall F_law_draw (mCons (mName 7) (mCons (mC (.int 7)) mNil)))) (mCons (mName 2) mNil))))
    (mSeq (mSet 10 (mOp (fEq false) (mCall F_law_draw (mCons (mName 7) (mCons (mC (.int 3)) mNil))) (mC (.int 0))))
    (mSeq (mSet 11 (mIf (mTst (mName 10)) (mCall F_law_plain_leaves (mCons (mName 8) (mCons (mName 9) mNil))) (mCall F_law_leaves (mCons (mName 7) (mCons (mName 8) (mCons (mName 9) mNil))))))
    (mSeq (mSet 2 (mOp fDiv (mName 2) (mCB fLen (mCons (mName 11) mNil))))
    (mSeq (mSet 12 (mCall F_law_word (mCons (mName 7) (mCons (mName 5) mNil))))
    (mSeq (mExpr (mApp (mName 5) (mName 12)))
    (mExpr (mApp (mName 4) (mTup (mCons (mName 12) (mCons (mName 11) mNil)))))))))))) mNext)))) (.int i)
      [some (.val (.scr (iD ns))), some (.val (.int f0)), some (.val (.int lf)), some (.own (boxD ds0 k0)), some (.own (.lst (ms.map Dim.d))), some (.own (.lst (ms.map fun m => dT m.nm))), none, none, none, none, none, none, none] = .nx [some (.val (.scr (iD ns))), some (.val (.int f0)), some (.val (.int lf')), some (.own (boxD ds0 k0)), some (.own (.lst ((ms ++ [m]).map Dim.d))), some (.own (.lst ((ms ++ [m]).map fun m => dT m.nm))), none, none, none, none, none, none, none] := by
  obtain ⟨ds, _, hb⟩ := law_box_ex ns (k := (f0 : Int) + 1 + i) (by omega)
  obtain ⟨r1, hr1, er1⟩ := draw_ex ds 0 (m := 3) (by decide)
  obtain ⟨r2, hr2, er2⟩ := draw_ex ds 1 (m := 7) (by decide)
  obtain ⟨r3, hr3, er3⟩ := draw_ex ds 2 (m := 3) (by decide)
  have hg : ¬ lf < 2 := by omega
  simp [hb, h2, hg, law_draw_eq, er1, er2, er3]
  have hm1 : (if (lf : Int) < 2 + (r2 : Int) then (lf : Int) else 2 + (r2 : Int)) = ((min (2 + r2) lf : Nat) : Int) := by
    split <;> omega
  have hm2 : (1 : Int) + (r1 : Int) = ((1 + r1 : Nat) : Int) := by simp
  rw [hm1, hm2]
  have mlo : 2 ≤ min (2 + r2) lf := by omega
  have mhi : min (2 + r2) lf ≤ 8 := by omega
  have mlf : min (2 + r2) lf ≤ lf := by omega
  have hL : ∃ (ls : List (List (List Nat))) (k3 : Nat), GoodL ls (1 + r1) ∧ ls.length ≤ min (2 + r2) lf ∧ ifK (mCall F_law_plain_leaves (mCons (mName 8) (mCons (mName 9) mNil))) (mCall F_law_leaves (mCons (mName 7) (mCons (mName 8) (mCons (mName 9) mNil)))) (R.ok (decide (r3 = 0)) [some (.val (.scr (iD ns))), some (.val (.int f0)), some (.val (.int lf)), some (.own (boxD ds0 k0)), some (.own (.lst (ms.map Dim.d))), some (.own (.lst (ms.map fun m => dT m.nm))), some (.val (.int i)), some (.own (boxD ds 3)), some (.val (.int ((1 + r1 : Nat) : Int))), some (.val (.int ((min (2 + r2) lf : Nat) : Int))), some (.val (.bl (decide (r3 = 0)))), none, none]) = .ok (.val (.tup (ls.map leafD))) [some (.val (.scr (iD ns))), some (.val (.int f0)), some (.val (.int lf)), some (.own (boxD ds0 k0)), some (.own (.lst (ms.map Dim.d))), some (.own (.lst (ms.map fun m => dT m.nm))), some (.val (.int i)), some (.own (boxD ds k3)), some (.val (.int ((1 + r1 : Nat) : Int))), some (.val (.int ((min (2 + r2) lf : Nat) : Int))), some (.val (.bl (decide (r3 = 0)))), none, none] := by
    generalize min (2 + r2) lf = mn at mlo mhi mlf
    by_cases hc : r3 = 0
    · have hp := plain_leaves_eq (d := 1 + r1) (n := mn) ⟨by omega, by omega⟩ ⟨mlo, mhi⟩
      exact ⟨plainL (1 + r1) mn, 3, goodB_of (plain_good (1 + r1) (by omega) mn (by omega) (by omega) mlo), by simp [plainL], by simp only [hc, decide_true]; simp [hp, -Int.natCast_add]⟩
    · obtain ⟨l, k', q1, q2, q3⟩ := law_leaves_ex ds 3 (1 + r1) mn ⟨by omega, by omega⟩ mlo mhi
      exact ⟨l, k', q1, q2, by simp [hc, q3, -Int.natCast_add]⟩
  obtain ⟨ls, k3, q1, q2, q3⟩ := hL
  rw [q3]
  obtain ⟨w, k4, w1, w2, w3⟩ := law_word_ex ds k3 (taken := ms.map (·.nm)) (by simp; omega) (.inl rfl)
  rw [List.map_map] at w3
  have w3 : F_law_word [.own (boxD ds k3), .own (.lst (ms.map fun m => dT m.nm))] = .ok (.val (dT w)) [.own (boxD ds k4), .own (.lst (ms.map fun m => dT m.nm))] := w3
  have hlo := q1.lo
  have hls : ls.length ≤ 16777216 := by omega
  have hdv : (0 : Int) < (ls.length : Int) ∧ (ls.length : Int) < 1000000000 := by omega
  have hfd : (lf : Int).fdiv (ls.length : Int) = ((lf / ls.length : Nat) : Int) := by
    rw [Int.fdiv_eq_ediv_of_nonneg _ (by omega)]; simp
  have hml : ms.length < 16777216 := by omega
  refine ⟨⟨w, ls, 1 + r1⟩, lf / ls.length, ⟨?_, ?_, ?_, ?_⟩, ?_⟩
  · intro m hm
    rcases List.mem_append.mp hm with z | z
    · exact h.good m z
    · rw [List.mem_singleton.mp z]; exact ⟨w1, q1⟩
  · rw [List.map_append]
    refine List.nodup_append.mpr ⟨h.nd, by simp, fun a ha b hb e => ?_⟩
    have hb : b = w := by simpa using hb
    subst hb; subst e
    exact w2 ha
  · rw [cells_snoc]
    show cellsN ms * ls.length * (lf / ls.length) ≤ 48
    have h1 : ls.length * (lf / ls.length) ≤ lf := Nat.mul_div_le _ _
    rw [Nat.mul_assoc]
    exact Nat.le_trans (Nat.mul_le_mul_left _ h1) h.few
  · exact Nat.div_pos (by omega) (by omega)
  · have hdI : divI (lf : Int) (ls.length : Int) = some (.val (.int ((lf / ls.length : Nat) : Int))) := by rw [divI_s hdv, hfd]
    simp [hls, hdI, w3, hml, Dim.d]
theorem wide_skip (ns : List Int) (f0 lf i k0 : Nat) (ds0 : List Int) {ms : List Dim} (h2 : lf < 2) : turnM (gmName 6) (mKill [6, 7, 8, 9, 10, 11, 12] (mSeq (mOwn 7 (mCall F_law_box (mCons (mName 0) (mCons (mOp fAdd (mOp fAdd (mName 1) (mC (.int 1))) (mName 6)) mNil))))
    (mKill [8, 9, 10, 11, 12] (mIfS (mTst (mOp fGe (mName 2) (mC (.int 2)))) (mSeq (mSet 8 (mOp fAdd (mC (.int 1)) (mCall F_law_draw (mCons (mName 7) (mCons (mC (.int 3)) mNil)))))
    (mSeq (mSet 9 (mCB fMin2 (mCons (mOp fAdd (mC (.int 2)) (mCall F_law_draw (mCons (mName 7) (mCons (mC (.int 7)) mNil)))) (mCons (mName 2) mNil))))
    (mSeq (mSet 10 (mOp (fEq false) (mCall F_law_draw (mCons (mName 7) (mCons (mC (.int 3)) mNil))) (mC (.int 0))))
    (mSeq (mSet 11 (mIf (mTst (mName 10)) (mCall F_law_plain_leaves (mCons (mName 8) (mCons (mName 9) mNil))) (mCall F_law_leaves (mCons (mName 7) (mCons (mName 8) (mCons (mName 9) mNil))))))
    (mSeq (mSet 2 (mOp fDiv (mName 2) (mCB fLen (mCons (mName 11) mNil))))
    (mSeq (mSet 12 (mCall F_law_word (mCons (mName 7) (mCons (mName 5) mNil))))
    (mSeq (mExpr (mApp (mName 5) (mName 12)))
    (mExpr (mApp (mName 4) (mTup (mCons (mName 12) (mCons (mName 11) mNil)))))))))))) mNext)))) (.int i)
      [some (.val (.scr (iD ns))), some (.val (.int f0)), some (.val (.int lf)), some (.own (boxD ds0 k0)), some (.own (.lst (ms.map Dim.d))), some (.own (.lst (ms.map fun m => dT m.nm))), none, none, none, none, none, none, none] = .nx [some (.val (.scr (iD ns))), some (.val (.int f0)), some (.val (.int lf)), some (.own (boxD ds0 k0)), some (.own (.lst (ms.map Dim.d))), some (.own (.lst (ms.map fun m => dT m.nm))), none, none, none, none, none, none, none] := by
  obtain ⟨ds, _, hb⟩ := law_box_ex ns (k := (f0 : Int) + 1 + i) (by omega)
  have hg : ¬ 2 ≤ lf := by omega
  simp [hb, h2, hg]
theorem law_wide_ex (ns : List Int) (f0 left : Nat) (hleft : 2 ≤ left ∧ left ≤ 48) : ∃ ms : List Dim, GoodD ms ∧ F_law_wide [.val (.scr (iD ns)), .val (.int f0), .val (.int left)] = .ok (.val (.tup (ms.map Dim.d))) [.val (.scr (iD ns)), .val (.int f0), .val (.int left)] := by
  obtain ⟨ds0, _, hb⟩ := law_box_ex ns (k := (f0 : Int)) (by omega)
  obtain ⟨r, hr, er⟩ := draw_ex ds0 0 (m := 3) (by decide)
  obtain ⟨e', he, ms, lf, rfl, g1, g2, g3, g4⟩ := loop_ix (g := gmName 6) (b := (mKill [6, 7, 8, 9, 10, 11, 12] (mSeq (mOwn 7 (mCall F_law_box (mCons (mName 0) (mCons (mOp fAdd (mOp fAdd (mName 1) (mC (.int 1))) (mName 6)) mNil))))
    (mKill [8, 9, 10, 11, 12] (mIfS (mTst (mOp fGe (mName 2) (mC (.int 2)))) (mSeq (mSet 8 (mOp fAdd (mC (.int 1)) (mCall F_law_draw (mCons (mName 7) (mCons (mC (.int 3)) mNil)))))
    (mSeq (mSet 9 (mCB fMin2 (mCons (mOp fAdd (mC (.int 2)) (mCall F_law_draw (mCons (mName 7) (mCons (mC (.int 7)) mNil)))) (mCons (mName 2) mNil))))
    (mSeq (mSet 10 (mOp (fEq false) (mCall F_law_draw (mCons (mName 7) (mCons (mC (.int 3)) mNil))) (mC (.int 0))))
    (mSeq (mSet 11 (mIf (mTst (mName 10)) (mCall F_law_plain_leaves (mCons (mName 8) (mCons (mName 9) mNil))) (mCall F_law_leaves (mCons (mName 7) (mCons (mName 8) (mCons (mName 9) mNil))))))
    (mSeq (mSet 2 (mOp fDiv (mName 2) (mCB fLen (mCons (mName 11) mNil))))
    (mSeq (mSet 12 (mCall F_law_word (mCons (mName 7) (mCons (mName 5) mNil))))
    (mSeq (mExpr (mApp (mName 5) (mName 12)))
    (mExpr (mApp (mName 4) (mTup (mCons (mName 12) (mCons (mName 11) mNil)))))))))))) mNext))))) (ds := (List.range (1 + r)).map fun k : Nat => D.int k)
    (fun i e => ∃ (ms : List Dim) (lf : Nat), e = [some (.val (.scr (iD ns))), some (.val (.int f0)), some (.val (.int lf)), some (.own (boxD ds0 1)), some (.own (.lst (ms.map Dim.d))), some (.own (.lst (ms.map fun m => dT m.nm))), none, none, none, none, none, none, none] ∧ PartD ms lf ∧ ms.length ≤ i ∧ (i = 0 → 2 ≤ lf) ∧ (1 ≤ i → 1 ≤ ms.length))
    (by
      rintro i d e hd ⟨ms, lf, rfl, g1, g2, g3, g4⟩
      have hi : i < 1 + r := by
        have := (List.getElem?_eq_some_iff.mp hd).1
        simpa using this
      have hd : d = .int (i : Nat) := by
        rw [List.getElem?_map, List.getElem?_range hi] at hd
        exact (Option.some.inj hd).symm
      subst hd
      by_cases h2 : 2 ≤ lf
      · obtain ⟨m, lf', q1, q2⟩ := wide_turn ns f0 lf i 1 ds0 g1 (by omega) h2
        exact ⟨_, .inl q2, ms ++ [m], lf', rfl, q1, by simp; omega, by intro z; omega, by intro _; simp⟩
      · refine ⟨_, .inl (wide_skip ns f0 lf i 1 ds0 (by omega)), ms, lf, rfl, g1, by omega, by intro z; omega, fun _ => g4 ?_⟩
        apply Classical.byContradiction
        intro z
        exact h2 (g3 (by omega)))
    _ ⟨[], left, rfl, ⟨(by intro m hm; cases hm), List.nodup_nil, by show 1 * left ≤ 48; omega, by omega⟩, Nat.le_refl _, fun _ => hleft.1, fun z => by omega⟩
  rw [List.length_map, List.length_range] at g2 g3 g4
  have h1 := g4 (by omega)
  refine ⟨ms, ⟨h1, by omega, g1.good, g1.nd, ?_⟩, ?_⟩
  · have := g1.few
    have := g1.one
    calc cellsN ms = cellsN ms * 1 := (Nat.mul_one _).symm
      _ ≤ cellsN ms * lf := Nat.mul_le_mul_left _ g1.one
      _ ≤ 48 := g1.few
  · have hc : (1 : Int) + (r : Int) = ((1 + r : Nat) : Int) := by simp
    have hr4 : 1 + r < 4611686018427387904 := by omega
    have hml : ms.length ≤ 16777216 := by omega
    simp [F_law_wide, hb, law_draw_eq, er]
    rw [hc]
    simp only [rng1_nat hr4]
    simp
    rw [List.map_nil, List.map_nil] at he
    rw [he]
    simp [hml]
end VL
set_option Elab.async false
set_option linter.all false
set_option maxRecDepth 100000
set_option maxHeartbeats 4000000
namespace VL
open PySem PySem.Spec PyProof.Rows L2
variable [CM]
def LevOk : List Nat → List Dim → Prop
  | [], [] => True
  | g :: gs, m :: ms => g ≤ m.dp ∧ LevOk gs ms
  | _, _ => False
theorem LevOk.len : ∀ {gs : List Nat} {ms : List Dim}, LevOk gs ms → gs.length = ms.length
  | [], [], _ => rfl
  | g :: gs, m :: ms, h => by simp [LevOk.len h.2]
  | [], _ :: _, h => h.elim
  | _ :: _, [], h => h.elim
end VL
set_option Elab.async false
set_option linter.all false
set_option maxRecDepth 100000
set_option maxHeartbeats 4000000
namespace VL
open PySem PySem.Spec PyProof.Rows L2
variable [CM]
end VL
set_option Elab.async false
set_option linter.all false
set_option maxRecDepth 100000
set_option maxHeartbeats 4000000
namespace VL
open PySem PySem.Spec PyProof.Rows L2
variable [CM]
theorem LevOk.at_ : ∀ {gs : List Nat} {ms : List Dim}, LevOk gs ms → ∀ i, i < gs.length → ∃ g m, gs[i]? = some g ∧ ms[i]? = some m ∧ g ≤ m.dp
  | [], _, _, i, h => by simp at h
  | _ :: _, [], h, _, _ => h.elim
  | g :: gs, m :: ms, h, 0, _ => ⟨g, m, rfl, rfl, h.1⟩
  | g :: gs, m :: ms, h, i + 1, hi => by
    obtain ⟨a, b, h1, h2, h3⟩ := LevOk.at_ h.2 i (by simpa using hi)
    exact ⟨a, b, by simpa using h1, by simpa using h2, h3⟩
end VL
set_option Elab.async false
set_option linter.all false
set_option maxRecDepth 100000
set_option maxHeartbeats 4000000
namespace VL
open PySem PySem.Spec PyProof.Rows L2
variable [CM]
def PartOk : List Nat → List Dim → Prop
  | [], [] => True
  | p :: ps, m :: ms => p < m.ls.length ∧ PartOk ps ms
  | _, _ => False
theorem PartOk.at_ : ∀ {ps : List Nat} {ms : List Dim}, PartOk ps ms → ∀ (i : Nat) (m : Dim), ms[i]? = some m → ∃ p, ps[i]? = some p ∧ p < m.ls.length
  | [], [], _, _, _, h => by simp at h
  | [], _ :: _, h, _, _, _ => h.elim
  | _ :: _, [], h, _, _, _ => h.elim
  | p :: ps, m :: ms, h, 0, x, e => by
    have e : m = x := by simpa using e
    subst e
    exact ⟨p, rfl, h.1⟩
  | p :: ps, m :: ms, h, i + 1, x, e => by
    obtain ⟨q, h1, h2⟩ := PartOk.at_ h.2 i x (by simpa using e)
    exact ⟨q, by simpa using h1, h2⟩
end VL
set_option Elab.async false
set_option linter.all false
set_option maxRecDepth 100000
set_option maxHeartbeats 4000000
namespace VL
open PySem PySem.Spec PyProof.Rows L2
variable [CM]
def prodN : List Dim → Nat
  | [] => 1
  | m :: ms => m.ls.length * prodN ms
theorem foldl_mul : ∀ (l : List Nat) (a : Nat), l.foldl (· * ·) a = a * l.foldl (· * ·) 1
  | [], a => by simp
  | x :: l, a => by
    rw [List.foldl_cons, List.foldl_cons, foldl_mul l (a * x), foldl_mul l (1 * x), Nat.one_mul, Nat.mul_assoc]
theorem cells_prod : ∀ ms : List Dim, cellsN ms = prodN ms
  | [] => rfl
  | m :: ms => by
    have ih := cells_prod ms
    unfold cellsN at ih ⊢
    rw [List.map_cons, List.foldl_cons, foldl_mul, ih, Nat.one_mul]; rfl
def posD (ms : List Dim) : Prop := ∀ m ∈ ms, 0 < m.ls.length
theorem GoodD.pos {ms : List Dim} (g : GoodD ms) : posD ms := fun m h => by have := (g.good m h).2.lo; omega
theorem posD.tail {m : Dim} {ms : List Dim} (h : posD (m :: ms)) : posD ms := fun x hx => h x (List.mem_cons_of_mem _ hx)
theorem posD.head {m : Dim} {ms : List Dim} (h : posD (m :: ms)) : 0 < m.ls.length := h m (List.mem_cons_self ..)
theorem PartOk.len : ∀ {ps : List Nat} {ms : List Dim}, PartOk ps ms → ps.length = ms.length
  | [], [], _ => rfl
  | [], _ :: _, h => h.elim
  | _ :: _, [], h => h.elim
  | p :: ps, m :: ms, h => by simp [PartOk.len h.2]
section
variable {ms : List Dim}
@[simp] theorem sp_dims : lookF (Str.ofString "dimensions") (spaceF ms) = some (.tup (ms.map Dim.d)) := by simp [spaceF]
@[simp] theorem sp_table : lookF (Str.ofString "table") (spaceF ms) = some (.tup (ms.map rowD)) := by simp [spaceF]
@[simp] theorem sp_inner : lookF (Str.ofString "inner") (spaceF ms) = some (.tup (ms.map innD)) := by simp [spaceF]
@[simp] theorem sp_many : lookF (Str.ofString "many") (spaceF ms) = some (.int (prodN ms : Nat)) := by simp [spaceF, cells_prod]
@[simp] theorem sp_no_depth : lookF (Str.ofString "depth") (spaceF ms) = none := by simp [spaceF]
@[simp] theorem sp_no_members : lookF (Str.ofString "members") (spaceF ms) = none := by simp [spaceF]
@[simp] theorem sp_no_dimension_at : lookF (Str.ofString "dimension_at") (spaceF ms) = none := by simp [spaceF]
@[simp] theorem sp_no_leaves_of : lookF (Str.ofString "leaves_of") (spaceF ms) = none := by simp [spaceF]
@[simp] theorem sp_no_parts : lookF (Str.ofString "parts") (spaceF ms) = none := by simp [spaceF]
@[simp] theorem sp_no_coordinates : lookF (Str.ofString "coordinates") (spaceF ms) = none := by simp [spaceF]
@[simp] theorem sp_no_cell : lookF (Str.ofString "cell") (spaceF ms) = none := by simp [spaceF]
end
end VL
set_option Elab.async false
set_option linter.all false
set_option maxRecDepth 100000
set_option maxHeartbeats 4000000
namespace VL
open PySem PySem.Spec PyProof.Rows L2
variable [CM]
def Pl : Nat → D → Prop
  | _, .non => True
  | _, .int _ => True
  | _, .str x => PyData.strOk x = true
  | n + 1, .tup ds => ∀ d ∈ ds, Pl n d
  | n + 1, .lst ds => ∀ d ∈ ds, Pl n d
  | _, _ => False
@[simp] theorem Pl_int {n : Nat} {i : Int} : Pl n (.int i) := by cases n <;> trivial
@[simp] theorem Pl_non {n : Nat} : Pl n .non := by cases n <;> trivial
@[simp] theorem Pl_str {n : Nat} {x : Str} : Pl n (.str x) = (PyData.strOk x = true) := by cases n <;> rfl
@[simp] theorem Pl_tup {n : Nat} {ds : List D} : Pl (n + 1) (.tup ds) = ∀ d ∈ ds, Pl n d := rfl
@[simp] theorem Pl_lst {n : Nat} {ds : List D} : Pl (n + 1) (.lst ds) = ∀ d ∈ ds, Pl n d := rfl
def Lay (n : Nat) (d : D) (p : PyData) : Prop := toPy d = some p ∧ p.canLay0 = true ∧ p.depth ≤ n
theorem toPys_ex {n : Nat} (ih : ∀ d, Pl n d → ∃ p, Lay n d p) : ∀ ds : List D, (∀ d ∈ ds, Pl n d) → ∃ ps, toPys ds = some ps ∧ PyData.canLayAll0 ps = true ∧ PyData.depthAll ps ≤ n
  | [], _ => ⟨[], by unfold toPys; rfl, by simp [PyData.canLayAll0], by simp [PyData.depthAll]⟩
  | d :: ds, h => by
    obtain ⟨p, h1, h2, h3⟩ := ih d (h d (by simp))
    obtain ⟨ps, h4, h5, h6⟩ := toPys_ex ih ds fun x hx => h x (List.mem_cons_of_mem _ hx)
    refine ⟨p :: ps, by unfold toPys; rw [h1, h4], by simp [PyData.canLayAll0, h2, h5], ?_⟩
    rw [PyData.depthAll]
    exact Nat.max_le.mpr ⟨h3, h6⟩
theorem Pl_lay : ∀ (n : Nat) (d : D), Pl n d → ∃ p, Lay n d p
  | n, .non, _ => ⟨.none, by unfold toPy; rfl, by simp [PyData.canLay0], by simp [PyData.depth]⟩
  | n, .int i, _ => ⟨.int i, by unfold toPy; rfl, by simp [PyData.canLay0], by simp [PyData.depth]⟩
  | n, .str x, h => ⟨.str x, by unfold toPy; rfl, by simpa [PyData.canLay0] using h, by simp [PyData.depth]⟩
  | n + 1, .tup ds, h => by
    obtain ⟨ps, h1, h2, h3⟩ := toPys_ex (Pl_lay n) ds h
    exact ⟨.tuple ps, by unfold toPy; rw [h1]; rfl, by simpa [PyData.canLay0] using h2, by rw [PyData.depth]; omega⟩
  | n + 1, .lst ds, h => by
    obtain ⟨ps, h1, h2, h3⟩ := toPys_ex (Pl_lay n) ds h
    exact ⟨.list ps, by unfold toPy; rw [h1]; rfl, by simpa [PyData.canLay0] using h2, by rw [PyData.depth]; omega⟩
  | 0, .tup _, h => h.elim
  | 0, .lst _, h => h.elim
  | 0, .bl _, h => h.elim
  | _ + 1, .bl _, h => h.elim
  | 0, .obj _ _, h => h.elim
  | _ + 1, .obj _ _, h => h.elim
  | 0, .scr _, h => h.elim
  | _ + 1, .scr _, h => h.elim
theorem toPys_inv {d : D} {ds : List D} {ps : List PyData} (h : toPys (d :: ds) = some ps) : ∃ p r, ps = p :: r ∧ toPy d = some p ∧ toPys ds = some r := by
  unfold toPys at h
  split at h
  · rename_i x xs h1 h2; cases h; exact ⟨x, xs, rfl, h1, h2⟩
  · cases h
theorem toPys_nil {ps : List PyData} (h : toPys [] = some ps) : ps = [] := by unfold toPys at h; cases h; rfl
theorem toPy_tup {ds : List D} {p : PyData} (h : toPy (.tup ds) = some p) : ∃ ps, toPys ds = some ps ∧ p = .tuple ps := by
  unfold toPy at h
  cases h1 : toPys ds with
  | none => rw [h1] at h; cases h
  | some ps => rw [h1] at h; cases h; exact ⟨ps, rfl, rfl⟩
theorem toPy_lst {ds : List D} {p : PyData} (h : toPy (.lst ds) = some p) : ∃ ps, toPys ds = some ps ∧ p = .list ps := by
  unfold toPy at h
  cases h1 : toPys ds with
  | none => rw [h1] at h; cases h
  | some ps => rw [h1] at h; cases h; exact ⟨ps, rfl, rfl⟩
theorem toPy_non {p : PyData} (h : toPy .non = some p) : p = .none := by unfold toPy at h; cases h; rfl
theorem toPy_int {i : Int} {p : PyData} (h : toPy (.int i) = some p) : p = .int i := by unfold toPy at h; cases h; rfl
theorem toPy_str {i : Str} {p : PyData} (h : toPy (.str i) = some p) : p = .str i := by unfold toPy at h; cases h; rfl
theorem Pl_eqvs {n : Nat} (ih : ∀ a b p q, Pl n a → Pl n b → toPy a = some p → toPy b = some q → (PyData.eqv p q = true ↔ a = b)) :
    ∀ (as bs : List D) (ps qs : List PyData), (∀ d ∈ as, Pl n d) → (∀ d ∈ bs, Pl n d) → toPys as = some ps → toPys bs = some qs → (PyData.eqvAll ps qs = true ↔ as = bs)
  | [], [], ps, qs, _, _, h1, h2 => by
    rw [toPys_nil h1, toPys_nil h2]; simp [PyData.eqvAll]
  | [], b :: bs, ps, qs, _, _, h1, h2 => by
    obtain ⟨p, r, rfl, _, _⟩ := toPys_inv h2
    rw [toPys_nil h1]; simp [PyData.eqvAll]
  | a :: as, [], ps, qs, _, _, h1, h2 => by
    obtain ⟨p, r, rfl, _, _⟩ := toPys_inv h1
    rw [toPys_nil h2]; simp [PyData.eqvAll]
  | a :: as, b :: bs, ps, qs, ha, hb, h1, h2 => by
    obtain ⟨p, r, rfl, e1, e2⟩ := toPys_inv h1
    obtain ⟨q, t, rfl, e3, e4⟩ := toPys_inv h2
    have i1 := ih a b p q (ha a (by simp)) (hb b (by simp)) e1 e3
    have i2 := Pl_eqvs ih as bs r t (fun x hx => ha x (List.mem_cons_of_mem _ hx)) (fun x hx => hb x (List.mem_cons_of_mem _ hx)) e2 e4
    rw [PyData.eqvAll, Bool.and_eq_true, i1, i2]
    simp
theorem Pl_eqv : ∀ (n : Nat) (a b : D) (p q : PyData), Pl n a → Pl n b → toPy a = some p → toPy b = some q → (PyData.eqv p q = true ↔ a = b) := by
  intro n
  induction n with
  | zero =>
    intro a b p q ha hb e1 e2
    cases a <;> cases b <;> first
      | exact ha.elim
      | exact hb.elim
      | (first | have e1 := toPy_non e1 | have e1 := toPy_int e1 | have e1 := toPy_str e1
         first | have e2 := toPy_non e2 | have e2 := toPy_int e2 | have e2 := toPy_str e2
         subst e1; subst e2; simp [PyData.eqv])
  | succ n ih =>
    intro a b p q ha hb e1 e2
    cases a <;> cases b <;> first
      | exact ha.elim
      | exact hb.elim
      | (obtain ⟨ps, h1, rfl⟩ := toPy_tup e1
         obtain ⟨qs, h2, rfl⟩ := toPy_tup e2
         rw [PyData.eqv, Pl_eqvs ih _ _ _ _ ha hb h1 h2]; simp)
      | (obtain ⟨ps, h1, rfl⟩ := toPy_lst e1
         obtain ⟨qs, h2, rfl⟩ := toPy_lst e2
         rw [PyData.eqv, Pl_eqvs ih _ _ _ _ ha hb h1 h2]; simp)
      | (first | have e1 := toPy_non e1 | have e1 := toPy_int e1 | have e1 := toPy_str e1 | have e1 := toPy_tup e1 | have e1 := toPy_lst e1
         try obtain ⟨ps, h1, e1⟩ := e1
         first | have e2 := toPy_non e2 | have e2 := toPy_int e2 | have e2 := toPy_str e2 | have e2 := toPy_tup e2 | have e2 := toPy_lst e2
         try obtain ⟨qs, h2, e2⟩ := e2
         subst_vars; simp [PyData.eqv])
theorem eqG_b {n : Nat} (hn : n ≤ 64) {a b : D} (ha : Pl n a) (hb : Pl n b) {x : Bool} (h : x = true ↔ a = b) : eqG a b = some x := by
  obtain ⟨p, h1, h2, h3⟩ := Pl_lay n a ha
  obtain ⟨q, h4, h5, h6⟩ := Pl_lay n b hb
  have hs : SeqAt.shaped p = true ∧ SeqAt.shaped q = true := ⟨by
    unfold SeqAt.shaped; rw [h2, decide_eq_true (by omega)]; rfl, by unfold SeqAt.shaped; rw [h5, decide_eq_true (by omega)]; rfl⟩
  unfold eqG
  rw [h1, h4]
  dsimp only
  rw [cif_pos hs]
  congr 1
  rw [Bool.eq_iff_iff, Pl_eqv n a b p q ha hb h1 h4, h]
class En (α : Type) where
  enc : α → D
  ok : α → Prop
  dep : Nat
  pl : ∀ a, ok a → Pl dep (enc a)
  inj : ∀ a b, enc a = enc b → a = b
theorem map_injD {α : Type} {f : α → D} (h : ∀ a b, f a = f b → a = b) : ∀ {l m : List α}, l.map f = m.map f → l = m
  | [], [], _ => rfl
  | [], _ :: _, e => by cases e
  | _ :: _, [], e => by cases e
  | a :: l, b :: m, e => by
    rw [List.map_cons, List.map_cons] at e
    injection e with e1 e2
    rw [h _ _ e1, map_injD h e2]
theorem eqG_map {α : Type} [DecidableEq α] {f : α → D} {n : Nat} (hn : n + 1 ≤ 64) (h : ∀ a b, f a = f b → a = b) {l m : List α} (hl : ∀ a ∈ l, Pl n (f a)) (hm : ∀ a ∈ m, Pl n (f a)) : eqG (.tup (l.map f)) (.tup (m.map f)) = some (decide (l = m)) := by
  refine eqG_b hn (n := n + 1) ?_ ?_ ?_
  · intro d hd; obtain ⟨a, ha, rfl⟩ := List.mem_map.mp hd; exact hl a ha
  · intro d hd; obtain ⟨a, ha, rfl⟩ := List.mem_map.mp hd; exact hm a ha
  · rw [decide_eq_true_iff]
    exact ⟨fun e => by rw [e], fun e => by injection e with e; exact map_injD h e⟩
abbrev nD (n : Nat) : D := .int (n : Int)
theorem nD_inj (a b : Nat) (h : (fun n : Nat => D.int n) a = (fun n : Nat => D.int n) b) : a = b := by injection h with h; omega
@[simp] theorem eqG_ns {l m : List Nat} : eqG (.tup (l.map fun n : Nat => D.int n)) (.tup (m.map fun n : Nat => D.int n)) = some (decide (l = m)) := eqG_map (n := 0) (by decide) nD_inj (fun _ _ => Pl_int) (fun _ _ => Pl_int)
@[simp] theorem eqG_is {l m : List Int} : eqG (.tup (l.map D.int)) (.tup (m.map D.int)) = some (decide (l = m)) := eqG_map (n := 0) (by decide) (fun a b h => by injection h) (fun _ _ => Pl_int) (fun _ _ => Pl_int)
end VL
set_option Elab.async false
set_option linter.all false
set_option maxRecDepth 100000
set_option maxHeartbeats 4000000
namespace VL
open PySem PySem.Spec PyProof.Rows L2
variable [CM]
theorem LevOk.max : ∀ {a b : List Nat} {ms : List Dim}, LevOk a ms → LevOk b ms → LevOk (List.zipWith max a b) ms
  | [], [], [], _, _ => trivial
  | x :: a, y :: b, m :: ms, h, g => ⟨by have := h.1; have := g.1; omega, LevOk.max h.2 g.2⟩
  | [], _ :: _, [], _, h => h.elim
  | _ :: _, _, [], h, _ => h.elim
  | [], _, _ :: _, h, _ => h.elim
  | _ :: _, [], _ :: _, _, h => h.elim
theorem LevOk.min : ∀ {a b : List Nat} {ms : List Dim}, LevOk a ms → LevOk b ms → LevOk (List.zipWith min a b) ms
  | [], [], [], _, _ => trivial
  | x :: a, y :: b, m :: ms, h, g => ⟨by have := h.1; have := g.1; omega, LevOk.min h.2 g.2⟩
  | [], _ :: _, [], _, h => h.elim
  | _ :: _, _, [], h, _ => h.elim
  | [], _, _ :: _, h, _ => h.elim
  | _ :: _, [], _ :: _, _, h => h.elim
end VL
set_option Elab.async false
set_option linter.all false
set_option maxRecDepth 100000
set_option maxHeartbeats 4000000
namespace VL
open PySem PySem.Spec PyProof.Rows L2
variable [CM]
section
variable {α : Type} [BEq α] [LawfulBEq α]
def addNew (acc : List α) (x : α) : List α := if x ∈ acc then acc else acc ++ [x]
def dd (l : List α) : List α := l.foldl addNew []
end
end VL
set_option Elab.async false
set_option linter.all false
set_option maxRecDepth 100000
set_option maxHeartbeats 4000000
namespace RT
open PySem PySem.Spec PyProof.Rows L2
section
variable {prog : Program} {w : World} {A : Around} {E : Value → Shared → Prop} {s : Shared} {R : Result → Shared → Prop}
end
end RT
namespace VL
open PySem PySem.Spec PyProof.Rows L2 RT
variable [CM]
section
variable {K : PySem.W.Frag} {c : VC} {Wx : WX} {X : Cx}
def lrv2 (e : Env) : Option D → R Env W
  | some (.lst ds) => .ok (.tmp (.lst ds.reverse)) e
  | _ => .no
@[simp] theorem lrv2_c1 (e : Env) (ds) : lrv2 e (some (.lst ds)) = .ok (.tmp (.lst ds.reverse)) e := rfl
def lrv1 : R Env W → R Env W
  | .ok w e => lrv2 e (view w e)
  | .ex C fs s => .ex C fs s
  | .no => .no
@[simp] theorem lrv1_c1 (w e) : lrv1 (.ok w e) = lrv2 e (view w e) := rfl
@[simp] theorem lrv1_c2 (C fs s) : lrv1 (.ex C fs s) = .ex C fs s := rfl
@[simp] theorem lrv1_c3 : lrv1 .no = .no := rfl
@[simp] def mLstRev (m : ME) (e : Env) : R Env W := lrv1 (m e)
end
end VL
set_option Elab.async false
set_option linter.all false
set_option maxRecDepth 100000
set_option maxHeartbeats 4000000
namespace VL
open PySem PySem.Spec PyProof.Rows L2
variable [CM]
section
variable {K : PySem.W.Frag} {c : VC} {Wx : WX} {X : Cx}
def compF2 (vg : VG) (vt : VTT) (vi1 : VI) (vg1 : VG) (vt1 : VTT) (ve : VT) (vs vs1 : List Nat) (Q : List D → Env → Prop) : List D → List D → Env → Prop
  | [], acc, env => Q acc env
  | d :: ds, acc, env => vg d env fun env1 => vt env1 (fun b env2 => if b = true then vi1 env2 (fun items env3 => compF vg1 vt1 ve vs1 (fun acc' env4 => compF2 vg vt vi1 vg1 vt1 ve vs vs1 Q ds acc' (wipeE env4 vs)) items acc (wipeE env3 vs1)) noX else compF2 vg vt vi1 vg1 vt1 ve vs vs1 Q ds acc (wipeE env2 vs)) noX
def vLc2 (c : VC) (vi : VI) (vg : VG) (vt : VTT) (vi1 : VI) (vg1 : VG) (vt1 : VTT) (ve : VT) (vs vs1 : List Nat) : VT := fun env Q QX => vi env (fun items env1 => okVs c vs env1 ∧ compF2 vg vt vi1 vg1 vt1 ve vs vs1 (fun acc env2 => Q (.tmp (.lst acc)) (restE env1 env2 vs)) items [] (wipeE env1 vs)) QX
theorem wipe_sub {σ τ : L2.St} {vs vs1 : List Nat} (h : L2.wipe τ vs = L2.wipe σ vs) (hs : ∀ j ∈ vs1, j ∈ vs) : L2.wipe (L2.wipe τ vs1) vs = L2.wipe σ vs := by
  rw [← h]
  exact wipe_eq (wipe_length _ _) fun j hj => wipe_out fun z => hj (hs j z)
theorem sim_lc2 {wi wi1 : TI} {vi vi1 : VI} {g g1 : TG} {vg vg1 : VG} {tt tt1 : TT} {vt vt1 : VTT} {te : TE} {ve : VT} {ss ss1 vs vs1 : List Nat} (hss : ∀ j ∈ ss, j ∈ vs) (hss1 : ∀ j ∈ ss1, j ∈ vs1) (hvs : ∀ j ∈ vs1, j ∈ vs) (hi : SimI K c Wx wi vi) (hg : SimG K c ss g vg) (ht : SimT K c W0 tt vt)
    (hi1 : SimI K c W0 wi1 vi1) (hg1 : SimG K c ss1 g1 vg1) (ht1 : SimT K c W0 tt1 vt1) (he : SimE K c W0 te ve) : SimE K c Wx (tLc2 wi g tt wi1 g1 tt1 te vs vs1) (vLc2 c vi vg vt vi1 vg1 vt1 ve vs vs1) := by
  intro f Hb env σ H Q QX Q' R q px k
  refine hi f Hb env σ H _ QX _ R q px fun items env1 J H1 Hb1 s1 R1 it q1 => ?_
  obtain ⟨hv, q1⟩ := q1
  intro DA nD
  have Rw := (R1.wipe fun v hv' => (hv v hv').1).put (o := .lst []) nD
  let QF : List D → Env → Prop := fun acc env2 => Q (.tmp (.lst acc)) (restE env1 env2 vs)
  let Nx : Nat → Hp → Prop := fun i H' => ∃ env' Hb' acc accV, Same Hb1 Hb' ∧ Rl K c (f.put DA (.lst accV)) Hb' env' (L2.wipe σ vs) H' ∧ RpL K Hb' acc accV ∧ i ≤ items.length ∧ compF2 vg vt vi1 vg1 vt1 ve vs vs1 QF (items.drop i) acc env'
  refine ⟨fun i m H' => m = items.length - i ∧ Nx i H', ⟨items.length, by simp, _, Hb1, [], [], Same.refl _, Rw, .nil, Nat.zero_le _, q1⟩, ?_⟩
  rintro i m H2 ⟨rfl, env2, Hb2, acc, accV, s2, R2, ra, hi2, q2⟩
  by_cases hlt : i < items.length
  · rw [List.drop_eq_getElem_cons hlt] at q2
    refine .inr ⟨it.go i Hb2 H2 s2 R2.sub hlt, fun H' => Nx (i + 1) H', fun H' z => ⟨items.length - (i + 1), by omega, rfl, z⟩, fun x H3 hy => ?_⟩
    obtain ⟨Hb3, x3, r3⟩ := it.yld i _ x Hb2 H2 H3 s2 R2.sub (List.getElem?_eq_getElem hlt) hy
    refine hg _ Hb3 env2 _ H3 _ x _ _ (R2.ext x3) r3 q2 fun env4 σ4 H4 Hb4 s4 R4 n4 q4 => ?_
    have hw : L2.wipe σ4 vs = L2.wipe σ vs := by
      rw [← wipe_wipe (σ := σ)]
      exact wipe_eq n4.1 fun j hj => n4.2 j fun z => hj (hss j z)
    refine ⟨hw, ?_⟩
    refine ht _ Hb4 env4 σ4 H4 _ noX _ R4 q4 px0 fun b env5 H5 Hb5 s5 R5 q5 => ?_
    have ss5 := (x3.b.trans s4).trans s5
    cases b with
    | false =>
      rw [if_neg Bool.false_ne_true] at q5 ⊢
      refine ⟨wipeE env5 vs, Hb5, acc, accV, s2.trans ss5, ?_, ra.mn ss5, hlt, q5⟩
      rw [← hw]
      exact R5.wipe fun v hv' => (hv v hv').1
    | true =>
      rw [if_pos rfl] at q5 ⊢
      refine hi1 _ Hb5 env5 σ4 H5 _ noX _ R5 q5 px0 fun items1 env6 J1 H6 Hb6 s6 R6 it1 q6 => ?_
      have Rv := R6.wipe (vs := vs1) fun v hv' => (hv v (hvs v hv')).1
      have ss6 := ss5.trans s6
      let QI : List D → Env → Prop := fun acc' env4 => compF2 vg vt vi1 vg1 vt1 ve vs vs1 QF (items.drop (i + 1)) acc' (wipeE env4 vs)
      let N1 : Nat → Hp → Prop := fun j H' => ∃ env' Hb' acc accV, Same Hb6 Hb' ∧ Rl K c (f.put DA (.lst accV)) Hb' env' (L2.wipe σ4 vs1) H' ∧ RpL K Hb' acc accV ∧ j ≤ items1.length ∧ compF vg1 vt1 ve vs1 QI (items1.drop j) acc env'
      refine ⟨fun j k H' => k = items1.length - j ∧ N1 j H', ⟨items1.length, by simp, _, Hb6, acc, accV, Same.refl _, Rv, ra.mn ss6, Nat.zero_le _, q6⟩, ?_⟩
      rintro j m1 H7 ⟨rfl, env7, Hb7, acc7, accV7, s7, R7, ra7, hj7, q7⟩
      by_cases hlt1 : j < items1.length
      · rw [List.drop_eq_getElem_cons hlt1] at q7
        refine .inr ⟨it1.go j Hb7 H7 s7 R7.sub hlt1, fun H' => N1 (j + 1) H', fun H' z => ⟨items1.length - (j + 1), by omega, rfl, z⟩, fun y H8 hy1 => ?_⟩
        obtain ⟨Hb8, x8, r8⟩ := it1.yld j _ y Hb7 H7 H8 s7 R7.sub (List.getElem?_eq_getElem hlt1) hy1
        refine hg1 _ Hb8 env7 _ H8 _ y _ _ (R7.ext x8) r8 q7 fun env9 σ9 H9 Hb9 s9 R9 n9 q9 => ?_
        have hw1 : L2.wipe σ9 vs1 = L2.wipe σ4 vs1 := by
          rw [← wipe_wipe (σ := σ4)]
          exact wipe_eq n9.1 fun j hj => n9.2 j fun z => hj (hss1 j z)
        refine ⟨hw1, ?_⟩
        refine ht1 _ Hb9 env9 σ9 H9 _ noX _ R9 q9 px0 fun b envA HA HbA sA RA qA => ?_
        cases b with
        | true =>
          rw [if_pos rfl] at qA ⊢
          refine he _ HbA envA σ9 HA _ noX _ RA qA px0 fun w envB vB HB HbB sB RB rB qB => ?_
          obtain ⟨d', envC, HbC, sC, RC, rC, hz, qC⟩ := RB.fz rB qB
          obtain ⟨hD, _⟩ := RC.atD
          have ssC := ((((x8.b.trans s9).trans sA).trans sB).trans sC)
          refine ⟨accV7, hD, by rw [ra7.length]; exact hz, wipeE envC vs1, HbC, acc7 ++ [d'], accV7 ++ [vB], s7.trans ssC, ?_, (ra7.mn ssC).app (.one rC), hlt1, qC⟩
          rw [← hw1]
          exact (RC.wipe fun v hv' => (hv v (hvs v hv')).1).reput
        | false =>
          rw [if_neg Bool.false_ne_true] at qA ⊢
          have ssA := ((x8.b.trans s9).trans sA)
          refine ⟨wipeE envA vs1, HbA, acc7, accV7, s7.trans ssA, ?_, ra7.mn ssA, hlt1, qA⟩
          rw [← hw1]
          exact RA.wipe fun v hv' => (hv v (hvs v hv')).1
      · have hj3 : j = items1.length := by omega
        rw [hj3, List.drop_length] at q7
        refine .inl ⟨it1.stop j Hb7 H7 s7 R7.sub (by omega), ?_⟩
        have q7 : QI acc7 env7 := q7
        have Rz := R7.wipe (vs := vs) fun v hv' => (hv v hv').1
        rw [wipe_sub hw hvs] at Rz
        exact ⟨wipeE env7 vs, Hb7, acc7, accV7, (s2.trans ss6).trans s7, Rz, ra7, hlt, q7⟩
  · have hi3 : i = items.length := by omega
    rw [hi3, List.drop_length] at q2
    refine .inl ⟨it.stop i Hb2 H2 s2 R2.sub (by omega), ?_⟩
    have q2 : Q (.tmp (.lst acc)) (restE env1 env2 vs) := q2
    obtain ⟨hD, hbD⟩ := R2.atD
    have fD : f.Fr DA = none := R1.frm.free nD
    have R3 := R2.unput fD
    have ownD : ∀ {j : Nat} {oc : OC}, (restE env1 env2 vs)[j]? = some (some (.own oc)) → j ∉ vs ∧ env2[j]? = some (some (.own oc)) := fun {j oc} e => by
      rcases restE_get _ _ _ _ _ e with ⟨h1, h2⟩ | h
      · exact ((hv j h1).2 oc h2).elim
      · exact h
    have R4 : Rl K c f Hb2 (restE env1 env2 vs) σ H2 := by
      refine ⟨by rw [restE_len, ← R3.len, wipe_length], fun {j d} e => ?_, fun {j oc} e => ?_, fun {i j o1 o2 b} e1 e2 e3 e4 => ?_, R3.sub, R3.frm, R3.frb, R3.tab, R1.fix, R3.xv⟩
      · rcases restE_get _ _ _ _ _ e with ⟨h1, h2⟩ | ⟨h1, h2⟩
        · obtain ⟨v, h3, h4⟩ := R1.val h2
          exact ⟨v, h3, h4.mn s2⟩
        · obtain ⟨v, h3, h4⟩ := R3.val h2
          rw [wipe_out h1] at h3
          exact ⟨v, h3, h4⟩
      · obtain ⟨h1, h2⟩ := ownD e
        obtain ⟨a, h3, h4⟩ := R3.own h2
        rw [wipe_out h1] at h3
        exact ⟨a, h3, h4⟩
      · obtain ⟨h1, h2⟩ := ownD e1
        obtain ⟨h3, h4⟩ := ownD e2
        exact R3.inj h2 h4 (by rw [wipe_out h1]; exact e3) (by rw [wipe_out h3]; exact e4)
    refine k (.tmp (.lst acc)) _ _ _ _ (s1.trans s2) R4 ⟨DA, rfl, hbD, fD, ⟨accV, hD, ra⟩, fun j oc e z => ?_⟩ q2
    obtain ⟨h1, h2⟩ := ownD e
    obtain ⟨a, h3, _, h5, _⟩ := R2.own h2
    rw [wipe_out h1, z] at h3
    cases h3
    have h5 : upd f.Fr DA (.lst accV) DA = none := h5
    rw [upd_same] at h5; cases h5
def t2c (vs : List Nat) : R Env (List D) → R Env (List D)
  | .ok ds e => .ok ds (wipeE e vs)
  | .ex C fs s => .ex C fs s
  | .no => .no
@[simp] theorem t2c_1 (vs : List Nat) (ds e) : t2c vs (.ok ds e) = .ok ds (wipeE e vs) := rfl
def t2b (g1 : GM) (t1 : MT) (el : ME) (vs vs1 : List Nat) : R Env (List D) → R Env (List D)
  | .ok items e => t2c vs (compM g1 t1 el vs1 items (wipeE e vs1))
  | .ex C fs s => .ex C fs s
  | .no => .no
@[simp] theorem t2b_1 (g1 : GM) (t1 : MT) (el : ME) (vs vs1 : List Nat) (items e) : t2b g1 t1 el vs vs1 (.ok items e) = t2c vs (compM g1 t1 el vs1 items (wipeE e vs1)) := rfl
def t2a (it1 : MI) (g1 : GM) (t1 : MT) (el : ME) (vs vs1 : List Nat) : R Env Bool → R Env (List D)
  | .ok true e => t2b g1 t1 el vs vs1 (it1 e)
  | .ok false e => .ok [] (wipeE e vs)
  | .ex C fs s => .ex C fs s
  | .no => .no
@[simp] theorem t2a_1 (it1 : MI) (g1 : GM) (t1 : MT) (el : ME) (vs vs1 : List Nat) (e) : t2a it1 g1 t1 el vs vs1 (.ok true e) = t2b g1 t1 el vs vs1 (it1 e) := rfl
@[simp] theorem t2a_2 (it1 : MI) (g1 : GM) (t1 : MT) (el : ME) (vs vs1 : List Nat) (e) : t2a it1 g1 t1 el vs vs1 (.ok false e) = .ok [] (wipeE e vs) := rfl
def t2g (t : MT) (it1 : MI) (g1 : GM) (t1 : MT) (el : ME) (vs vs1 : List Nat) : Option Env → R Env (List D)
  | some e => t2a it1 g1 t1 el vs vs1 (t e)
  | none => .no
@[simp] theorem t2g_1 (t : MT) (it1 : MI) (g1 : GM) (t1 : MT) (el : ME) (vs vs1 : List Nat) (e) : t2g t it1 g1 t1 el vs vs1 (some e) = t2a it1 g1 t1 el vs vs1 (t e) := rfl
@[simp] def turnC2 (g : GM) (t : MT) (it1 : MI) (g1 : GM) (t1 : MT) (el : ME) (vs vs1 : List Nat) (d : D) (e : Env) : R Env (List D) := t2g t it1 g1 t1 el vs vs1 (g d e)
def comp2M (g : GM) (t : MT) (it1 : MI) (g1 : GM) (t1 : MT) (el : ME) (vs vs1 : List Nat) : List D → Env → R Env (List D)
  | [], e => .ok [] e
  | d :: ds, e => sq (comp2M g t it1 g1 t1 el vs vs1 ds) (· ++ ·) (turnC2 g t it1 g1 t1 el vs vs1 d e)
noncomputable def lc12 (fx : List Nat) (g : GM) (t : MT) (it1 : MI) (g1 : GM) (t1 : MT) (el : ME) (vs vs1 : List Nat) : R Env (List D) → R Env W
  | .ok ds e => lc2 e vs (comp2M g t it1 g1 t1 el vs vs1 ds (wipeE e vs)) (okE fx vs e)
  | .ex C fs s => .ex C fs s
  | .no => .no
@[simp] theorem lc12_1 (fx : List Nat) (g : GM) (t : MT) (it1 : MI) (g1 : GM) (t1 : MT) (el : ME) (vs vs1 : List Nat) (ds e) : lc12 fx g t it1 g1 t1 el vs vs1 (.ok ds e) = lc2 e vs (comp2M g t it1 g1 t1 el vs vs1 ds (wipeE e vs)) (okE fx vs e) := rfl
@[simp] noncomputable def mLc2 (fx : List Nat) (it : MI) (g : GM) (t : MT) (it1 : MI) (g1 : GM) (t1 : MT) (el : ME) (vs vs1 : List Nat) (e : Env) : R Env W := lc12 fx g t it1 g1 t1 el vs vs1 (it e)
theorem po_comp2 {g g1 : GM} {t t1 : MT} {it1 : MI} {el : ME} {vs vs1 : List Nat} {Q : List D → Env → Prop} : ∀ {ds : List D} {e : Env} {acc : List D}, (comp2M g t it1 g1 t1 el vs vs1 ds e).po (fun r e2 => acc.length + r.length ≤ sizeLine ∧ Q (acc ++ r) e2) noX → compF2 (vGm g) (vR t) (vR it1) (vGm g1) (vR t1) (vR el) vs vs1 Q ds acc e
  | [], e, acc, h => by
    have h : acc.length + 0 ≤ sizeLine ∧ Q (acc ++ []) e := h
    rw [List.append_nil] at h
    exact h.2
  | d :: ds, e, acc, h => by
    have h : (sq (comp2M g t it1 g1 t1 el vs vs1 ds) (· ++ ·) (t2g t it1 g1 t1 el vs vs1 (g d e))).po (fun r e2 => acc.length + r.length ≤ sizeLine ∧ Q (acc ++ r) e2) noX := h
    show poO _ (g d e)
    cases hA : g d e with
    | none => rw [hA] at h; exact h
    | some e1 =>
      rw [hA] at h
      have h : (sq (comp2M g t it1 g1 t1 el vs vs1 ds) (· ++ ·) (t2a it1 g1 t1 el vs vs1 (t e1))).po (fun r e2 => acc.length + r.length ≤ sizeLine ∧ Q (acc ++ r) e2) noX := h
      show (t e1).po _ noX
      cases hB : t e1 with
      | ex C fs s => rw [hB] at h; exact h
      | no => rw [hB] at h; exact h
      | ok b e2 =>
        rw [hB] at h
        cases b with
        | false =>
          have h := po_mp (g := fun r => ([] : List D) ++ r) (r := comp2M g t it1 g1 t1 el vs vs1 ds (wipeE e2 vs)) h
          exact po_comp2 (po_mono h fun r e3 hr => by simpa using hr)
        | true =>
          have h : (sq (comp2M g t it1 g1 t1 el vs vs1 ds) (· ++ ·) (t2b g1 t1 el vs vs1 (it1 e2))).po (fun r e2 => acc.length + r.length ≤ sizeLine ∧ Q (acc ++ r) e2) noX := h
          show (it1 e2).po _ noX
          cases hC : it1 e2 with
          | ex C fs s => rw [hC] at h; exact h
          | no => rw [hC] at h; exact h
          | ok items e3 =>
            rw [hC] at h
            have h : (sq (comp2M g t it1 g1 t1 el vs vs1 ds) (· ++ ·) (t2c vs (compM g1 t1 el vs1 items (wipeE e3 vs1)))).po (fun r e2 => acc.length + r.length ≤ sizeLine ∧ Q (acc ++ r) e2) noX := h
            refine po_comp (QX := noX) ?_
            cases hD : compM g1 t1 el vs1 items (wipeE e3 vs1) with
            | ex C fs s => rw [hD] at h; exact h
            | no => rw [hD] at h; exact h
            | ok r e4 =>
              rw [hD] at h
              have h := po_mp (g := fun r' => r ++ r') (r := comp2M g t it1 g1 t1 el vs vs1 ds (wipeE e4 vs)) h
              refine ⟨?_, po_comp2 (po_mono h fun r' e5 hr => ⟨by have := hr.1; simp only [List.length_append] at this ⊢; omega, by rw [List.append_assoc]; exact hr.2⟩)⟩
              cases hE : comp2M g t it1 g1 t1 el vs vs1 ds (wipeE e4 vs) with
              | ex C fs s => rw [hE] at h; exact False.elim h
              | no => rw [hE] at h; exact False.elim h
              | ok r' e5 =>
                rw [hE] at h
                have h1 : acc.length + (r ++ r').length ≤ sizeLine := h.1
                simp only [List.length_append] at h1
                omega
theorem po_lc2 {it it1 : MI} {g g1 : GM} {t t1 : MT} {el : ME} {vs vs1 : List Nat} {env : Env} {Q : VQ} {QX : VX} (h : vR (mLc2 c.fx it g t it1 g1 t1 el vs vs1) env Q QX) : vLc2 c (vR it) (vGm g) (vR t) (vR it1) (vGm g1) (vR t1) (vR el) vs vs1 env Q QX := by
  have h : (lc12 c.fx g t it1 g1 t1 el vs vs1 (it env)).po Q QX := h
  show (it env).po _ QX
  cases hA : it env with
  | ex C fs s => rw [hA] at h; exact h
  | no => rw [hA] at h; exact h
  | ok ds e =>
    rw [hA] at h
    have h : (lc2 e vs (comp2M g t it1 g1 t1 el vs vs1 ds (wipeE e vs)) (okE c.fx vs e)).po Q QX := h
    cases hK : okE c.fx vs e with
    | false => rw [hK] at h; exact h.elim
    | true =>
      rw [hK] at h
      have h : (lc3 e vs (comp2M g t it1 g1 t1 el vs vs1 ds (wipeE e vs))).po Q QX := h
      refine ⟨okE_of hK, po_comp2 ?_⟩
      cases hC : comp2M g t it1 g1 t1 el vs vs1 ds (wipeE e vs) with
      | ex C fs s => rw [hC] at h; exact h.elim
      | no => rw [hC] at h; exact h.elim
      | ok r e2 =>
        rw [hC] at h
        have h : (opR (restE e e2 vs) (lim r.length (.tmp (.lst r)))).po Q QX := h
        cases h1 : lim r.length (W.tmp (.lst r)) with
        | none => rw [h1] at h; exact h.elim
        | some w =>
          rw [h1] at h
          obtain ⟨h2, rfl⟩ := lim_some h1
          exact ⟨by simpa using h2, h⟩
structure FBlk2 (X : Cx) (c : VC) (scope : Scope) (own : List (Str × Nat)) (ss ss1 vs1 : List Nat) (tg elt : Expr) (ifs : List Expr) (tg1 iter1 : Expr) (ifs1 : List Expr) (g : TG) (mg : GM) (tt : TT) (mt : MT) (wi1 : TI) (mi1 : MI) (g1 : TG) (mg1 : GM) (tt1 : TT) (mt1 : MT) (te : TE) (me : ME) : Prop where
  ok : BlkOk X.N X.env.scope scope own
  sub : ∀ j ∈ ss, j ∈ own.map (·.2)
  sub1 : ∀ j ∈ ss1, j ∈ vs1
  sub2 : ∀ j ∈ vs1, j ∈ own.map (·.2)
  g : ∀ (s : Shared) (H : Hp) (C : Addr) (cl : List (Str × Addr)) (fp : List Addr), VGt (X.blk s H scope (compEnvC scope cl C X.env) fp) c ss tg g (vGm mg)
  t : ∀ (s : Shared) (H : Hp) (C : Addr) (cl : List (Str × Addr)) (fp : List Addr), VTs (X.blk s H scope (compEnvC scope cl C X.env) fp) c W0 ifs tt (vR mt)
  i1 : ∀ (s : Shared) (H : Hp) (C : Addr) (cl : List (Str × Addr)) (fp : List Addr), VIt (X.blk s H scope (compEnvC scope cl C X.env) fp) c W0 tg1 iter1 wi1 (vR mi1)
  g1 : ∀ (s : Shared) (H : Hp) (C : Addr) (cl : List (Str × Addr)) (fp : List Addr), VGt (X.blk s H scope (compEnvC scope cl C X.env) fp) c ss1 tg1 g1 (vGm mg1)
  t1 : ∀ (s : Shared) (H : Hp) (C : Addr) (cl : List (Str × Addr)) (fp : List Addr), VTs (X.blk s H scope (compEnvC scope cl C X.env) fp) c W0 ifs1 tt1 (vR mt1)
  e : ∀ (s : Shared) (H : Hp) (C : Addr) (cl : List (Str × Addr)) (fp : List Addr), VE (X.blk s H scope (compEnvC scope cl C X.env) fp) c W0 elt te (vR me)
section
variable {scope : Scope} {own : List (Str × Nat)} {ss ss1 vs vs1 : List Nat} {tg elt iter tg1 iter1 : Expr} {ifs ifs1 : List Expr} {g g1 : TG} {vg vg1 : GM} {tt tt1 : TT} {vt vt1 : MT} {te : TE} {ve : ME} {wi wi1 : TI} {vi vi1 : MI} {pos : Pos}
theorem FBlk2.sim (B : FBlk2 X c scope own ss ss1 vs1 tg elt ifs tg1 iter1 ifs1 g vg tt vt wi1 vi1 g1 vg1 tt1 vt1 te ve) (hi : FI X c Wx tg iter wi vi) :
    SimE X.K c Wx (tLc2 wi g tt wi1 g1 tt1 te (own.map (·.2)) vs1) (vR (mLc2 c.fx vi vg vt vi1 vg1 vt1 ve (own.map (·.2)) vs1)) := fun f Hb env σ H Q QX Q' R q px k =>
  sim_lc2 B.sub B.sub1 B.sub2 hi.sim (B.g {} (fun _ => none) 0 [] []).sim (B.t {} (fun _ => none) 0 [] []).sim (B.i1 {} (fun _ => none) 0 [] []).sim (B.g1 {} (fun _ => none) 0 [] []).sim (B.t1 {} (fun _ => none) 0 [] []).sim (B.e {} (fun _ => none) 0 [] []).sim f Hb env σ H Q QX Q' R (po_lc2 q) px k
end
theorem VIt.re {tg e : Expr} {te te' : TI} {t : VI} (h : VIt X c Wx tg e te t) (q : te = te') : VIt X c Wx tg e te' t := q ▸ h
end
end VL
set_option Elab.async false
set_option linter.all false
set_option maxRecDepth 100000
set_option maxHeartbeats 4000000
namespace VL
open PySem PySem.Spec PyProof.Rows L2
noncomputable def F_law_prefix : FN := fnM 2 2 [] (mRet [] (mSM fJoin (mC (.str "/")) (mSl (mSS splitS (mName 0) (mC (.str "/"))) mNoPart (mPart (mName 1)))))
variable [CM]
theorem law_prefix_eq {ws : List (List Nat)} {n : Nat} (hne : ws ≠ []) (hc : ∀ w ∈ ws, clean w) (hl : szP ws ≤ 1000000) : F_law_prefix [.val (leafD ws), .val (.int n)] = .ok (.val (leafD (ws.take n))) [.val (leafD ws), .val (.int n)] := by
  have h1 : (pathT ws).length ≤ 16777214 := by have := pathT_len ws; omega
  have h2 := szP_take ws n
  have e : cutD (ws.map dT) none (some (n : Int)) = ((ws.take n).map tx).map D.str := by rw [cutD_to, List.map_map, List.map_take]; rfl
  have js := join_path (ws := ws.take n) (by omega)
  have hs := split_path hne hc
  simp [F_law_prefix, leafD, slash_tx, h1, hs]
  have e' : cutD (List.map (D.str ∘ tx) ws) none (some (n : Int)) = ((ws.take n).map tx).map D.str := e
  rw [e']
  simp [js, -List.map_take, -List.map_map]
end VL
set_option Elab.async false
set_option linter.all false
set_option maxRecDepth 100000
set_option maxHeartbeats 4000000
namespace VL
open PySem PySem.Spec PyProof.Rows L2
variable [CM]
end VL
set_option Elab.async false
set_option linter.all false
set_option maxRecDepth 100000
set_option maxHeartbeats 4000000
namespace VL
open PySem PySem.Spec PyProof.Rows L2
variable [CM]
end VL
set_option Elab.async false
set_option linter.all false
set_option maxRecDepth 100000
set_option maxHeartbeats 4000000
namespace VL
open PySem PySem.Spec PyProof.Rows L2
variable [CM]
def lt (m : Dim) : List (List Nat) := m.ls.map pathT
end VL
set_option Elab.async false
set_option linter.all false
set_option maxRecDepth 100000
set_option maxHeartbeats 4000000
namespace VL
open PySem PySem.Spec PyProof.Rows L2
variable [CM]
section
variable {K : PySem.W.Frag} {c : VC} {Wx : WX} {X : Cx}
@[simp] theorem isXb_self (C : Str) : isXb C C = true := by unfold isXb; exact @decide_eq_true _ (_) (.inl rfl)
@[simp] theorem isXb_top (C : Str) : isXb C (Str.ofString "CubeError") = true := by unfold isXb; exact @decide_eq_true _ (_) (.inr rfl)
@[simp] def mIsE (b : Bool) (e : Env) : R Env W := .ok (.val (.bl b)) e
def endX (i : Nat) : SR → SR
  | .nx e => .nx (e.set i none)
  | .bk e => .bk (e.set i none)
  | .ct e => .ct (e.set i none)
  | .rt w e => .rt w e
  | _ => .no
@[simp] theorem endX_1 (i : Nat) (e) : endX i (.nx e) = .nx (e.set i none) := rfl
@[simp] theorem endX_2 (i : Nat) (e) : endX i (.bk e) = .bk (e.set i none) := rfl
@[simp] theorem endX_3 (i : Nat) (e) : endX i (.ct e) = .ct (e.set i none) := rfl
@[simp] theorem endX_4 (i : Nat) (w e) : endX i (.rt w e) = .rt w e := rfl
noncomputable def catX (i : Nat) (Y : Str) (suite : Str → MS) (C : Str) (fs : List (Str × D)) (e : Env) : SR :=
  cif (isXb C Y = true) (cif (fs = [] ∧ i < e.length) (endX i (suite C (e.set i none))) .no) (.ex C fs e)
@[simp] theorem catX_1 (i : Nat) (suite : Str → MS) (C : Str) (e : Env) (h : i < e.length) : catX i (Str.ofString "CubeError") suite C [] e = endX i (suite C (e.set i none)) := by
  unfold catX
  rw [cif_pos (isXb_top C), cif_pos ⟨rfl, h⟩]
noncomputable def tryS (i : Nat) (Y : Str) (suite : Str → MS) : SR → SR
  | .ex C fs e => catX i Y suite C fs e
  | r => r
@[simp] theorem tryS_1 (i : Nat) (Y : Str) (suite : Str → MS) (C fs e) : tryS i Y suite (.ex C fs e) = catX i Y suite C fs e := rfl
@[simp] theorem tryS_2 (i : Nat) (Y : Str) (suite : Str → MS) (e) : tryS i Y suite (.nx e) = .nx e := rfl
@[simp] theorem tryS_3 (i : Nat) (Y : Str) (suite : Str → MS) (w e) : tryS i Y suite (.rt w e) = .rt w e := rfl
@[simp] theorem tryS_4 (i : Nat) (Y : Str) (suite : Str → MS) (e) : tryS i Y suite (.bk e) = .bk e := rfl
@[simp] theorem tryS_5 (i : Nat) (Y : Str) (suite : Str → MS) (e) : tryS i Y suite (.ct e) = .ct e := rfl
@[simp] noncomputable def mTry (i : Nat) (Y : Str) (body : MS) (suite : Str → MS) (e : Env) : SR := tryS i Y suite (body e)
end
end VL
namespace VL
open PySem PySem.Spec PyProof.Rows L2
variable [CM]
end VL
set_option Elab.async false
set_option linter.all false
set_option maxRecDepth 100000
set_option maxHeartbeats 4000000
namespace VL
open PySem PySem.Spec PyProof.Rows L2
variable [CM]
end VL
set_option Elab.async false
set_option linter.all false
set_option maxRecDepth 100000
set_option maxHeartbeats 4000000
namespace VL
open PySem PySem.Spec PyProof.Rows L2
variable [CM]
section
variable {K : PySem.W.Frag} {c : VC} {Wx : WX} {X : Cx}
def endO : SR → SR
  | .ex _ _ _ => .no
  | r => r
@[simp] theorem endO_1 (e) : endO (.nx e) = .nx e := rfl
@[simp] theorem endO_2 (e) : endO (.bk e) = .bk e := rfl
@[simp] theorem endO_3 (e) : endO (.ct e) = .ct e := rfl
@[simp] theorem endO_4 (w e) : endO (.rt w e) = .rt w e := rfl
noncomputable def catO (Y : Str) (suite : MS) (C : Str) (fs : List (Str × D)) (e : Env) : SR :=
  cif (isXb C Y = true) (cif (fs = []) (endO (suite e)) .no) (.ex C fs e)
@[simp] theorem catO_1 (Y : Str) (suite : MS) (e : Env) : catO Y suite Y [] e = endO (suite e) := by
  unfold catO
  rw [cif_pos (isXb_self Y), cif_pos rfl]
noncomputable def tryO (Y : Str) (suite : MS) : SR → SR
  | .ex C fs e => catO Y suite C fs e
  | r => r
@[simp] theorem tryO_1 (Y : Str) (suite : MS) (C fs e) : tryO Y suite (.ex C fs e) = catO Y suite C fs e := rfl
@[simp] theorem tryO_2 (Y : Str) (suite : MS) (e) : tryO Y suite (.nx e) = .nx e := rfl
@[simp] theorem tryO_3 (Y : Str) (suite : MS) (w e) : tryO Y suite (.rt w e) = .rt w e := rfl
@[simp] theorem tryO_4 (Y : Str) (suite : MS) (e) : tryO Y suite (.bk e) = .bk e := rfl
@[simp] theorem tryO_5 (Y : Str) (suite : MS) (e) : tryO Y suite (.ct e) = .ct e := rfl
@[simp] noncomputable def mTryO (Y : Str) (body : MS) (suite : MS) (e : Env) : SR := tryO Y suite (body e)
end
end VL
set_option Elab.async false
set_option linter.all false
set_option maxRecDepth 100000
set_option maxHeartbeats 4000000
namespace VL
open PySem PySem.Spec PyProof.Rows L2
variable [CM]
theorem log2_lt {n k : Nat} (h : n < 2 ^ k) (hk : 0 < k) : n.log2 < k := by
  by_cases hn : n = 0
  · subst hn; rw [show Nat.log2 0 = 0 by decide]; exact hk
  · exact (Nat.log2_lt hn).mpr h
def Bt (k : Nat) (q : Rat) : Prop := q.num.natAbs < 2 ^ k ∧ q.den < 2 ^ k
theorem Bt.mono {k l : Nat} {q : Rat} (h : Bt k q) (hl : k ≤ l) : Bt l q := ⟨Nat.lt_of_lt_of_le h.1 (Nat.pow_le_pow_right (by decide) hl), Nat.lt_of_lt_of_le h.2 (Nat.pow_le_pow_right (by decide) hl)⟩
section
variable {k l : Nat} {x y : Rat}
end
end VL
set_option Elab.async false
set_option linter.all false
set_option maxRecDepth 100000
set_option maxHeartbeats 4000000
namespace VL
open PySem PySem.Spec PyProof.Rows L2
variable [CM]
structure PartE (ms : List Dim) (lf B : Nat) : Prop where
  good : ∀ m ∈ ms, isWord m.nm = true ∧ GoodL m.ls m.dp
  nd : (ms.map (·.nm)).Nodup
  few : cellsN ms * lf ≤ B
  one : 1 ≤ lf
end VL
set_option Elab.async false
set_option linter.all false
set_option maxRecDepth 100000
set_option maxHeartbeats 4000000
namespace VL
open PySem PySem.Spec PyProof.Rows L2
variable [CM]
end VL
set_option Elab.async false
set_option linter.all false
set_option maxRecDepth 100000
set_option maxHeartbeats 4000000
namespace VL
open PySem PySem.Spec PyProof.Rows L2
variable [CM]
def decL (i : Int) : List Nat := if i < 0 then 45 :: TL.numL i.natAbs else TL.numL i.natAbs
theorem str_dec (i : Int) : Str.ofString (toString i) = tx (decL i) := by
  unfold decL
  by_cases h : i < 0
  · rw [if_pos h]
    obtain ⟨n, rfl⟩ : ∃ n : Nat, i = Int.negSucc n := ⟨i.natAbs - 1, by omega⟩
    have e : Str.ofString (toString ((n + 1 : Nat) : Int)) = tx (TL.numL (n + 1)) := SX.num_S (n + 1)
    have e2 : toString (Int.negSucc n) = "-" ++ toString ((n + 1 : Nat) : Int) := rfl
    rw [e2]
    have e3 : Str.ofString ("-" ++ toString ((n + 1 : Nat) : Int)) = Str.ofString "-" ++ Str.ofString (toString ((n + 1 : Nat) : Int)) := by
      rw [PySem.Str.ofString_eq_toList, PySem.Str.ofString_eq_toList, PySem.Str.ofString_eq_toList, String.toList_append, List.map_append]
      show (⟨_⟩ : Str) = ⟨_ ++ _⟩
      simp
    rw [e3, e, show Str.ofString "-" = tx [45] by decide +kernel, tx_cat]
    rfl
  · rw [if_neg h]
    obtain ⟨n, rfl⟩ : ∃ n : Nat, i = (n : Int) := ⟨i.natAbs, by omega⟩
    exact SX.num_S n
theorem numL_le {n : Nat} (h : n ≤ 999999999) : (TL.numL n).length ≤ 9 := TL.numL_len (by decide) (by omega)
theorem int_dec {i : Int} (h : i.natAbs ≤ 999999999) : PySem.intText? (tx (decL i)) = some i := by
  have h9 := numL_le h
  have hv := TL.numL_val i.natAbs
  unfold decL
  by_cases hn : i < 0
  · rw [if_pos hn]
    have e := PySem.intText_neg (x := tx (45 :: TL.numL i.natAbs)) (cs := TL.numL i.natAbs) (tx_list _) (TL.numL_digits _) (TL.numL_ne _) (by rw [tx_len, List.length_cons]; omega)
    rw [e, hv]
    congr 1; omega
  · rw [if_neg hn]
    have e := PySem.intText_digits (x := tx (TL.numL i.natAbs)) (by rw [tx_list]; exact TL.numL_digits _) (by rw [tx_list]; exact TL.numL_ne _) (by rw [tx_len]; omega)
    rw [tx_list, hv] at e
    rw [e]
    congr 1; omega
theorem numL_lead {n : Nat} (h : 0 < n) : ∃ c r, TL.numL n = c :: r ∧ c ≠ 48 := by
  induction n using Nat.strongRecOn with
  | _ n ih =>
    by_cases hn : n < 10
    · rw [TL.numL_lt hn]; exact ⟨48 + n, [], rfl, by omega⟩
    · obtain ⟨c, r, e, hc⟩ := ih (n / 10) (by omega) (by omega)
      rw [TL.numL_step (by omega), e]
      exact ⟨c, r ++ [48 + n % 10], rfl, hc⟩
theorem digits_tx : Str.ofString "0123456789" = tx [48, 49, 50, 51, 52, 53, 54, 55, 56, 57] := by decide +kernel
theorem blank_tx : Str.ofString " " = tx [32] := by decide +kernel
theorem joinL_len (S : List Nat) : ∀ xs : List (List Nat), (TL.joinL S xs).length ≤ (xs.map List.length).sum + xs.length * S.length
  | [] => by simp [TL.joinL]
  | [x] => by simp [TL.joinL]
  | x :: z :: xs => by
    have ih := joinL_len S (z :: xs)
    show (x ++ (S ++ TL.joinL S (z :: xs))).length ≤ _
    simp [Nat.add_mul] at ih ⊢
    omega
theorem join_tx {S : List Nat} {q : List (List Nat)} (h : (q.map List.length).sum + q.length * S.length ≤ 16777216) : joinS (tx S) (q.map tx) = some (.val (.str (tx (TL.joinL S q)))) := by
  have e : (q.map tx).map (·.length) = q.map List.length := by rw [List.map_map]; exact List.map_congr_left fun x _ => tx_len x
  rw [joinS_of (by rw [e, List.length_map, tx_len]; exact h)]
  have j : Txt.join (tx S) (q.map tx) = tx (TL.joinL S q) := SX.join_S S q
  rw [j]
theorem str_of {i : Int} (h : i.natAbs ≤ 999999999) : strI i = some (.val (dT (decL i))) := by
  rw [strI_of (by
    by_cases hz : i.natAbs = 0
    · rw [hz]; decide
    · exact Nat.lt_trans ((Nat.log2_lt (n := i.natAbs) (k := 30) hz).mpr (Nat.lt_of_le_of_lt h (by decide))) (by decide)), str_dec]
end VL
set_option Elab.async false
set_option linter.all false
set_option maxRecDepth 100000
set_option maxHeartbeats 4000000
namespace VL
open PySem PySem.Spec PyProof.Rows L2
noncomputable def B_run_end_1 : MS := (mSet 1 (mOp fAdd (mName 1) (mC (.int 1))))
noncomputable def F_run_end : FN := fnM 3 3 [] (mSeq (mWhile (mAndT (mTst (mOp fLt (mName 1) (mCB fLen (mCons (mName 0) mNil)))) (mTst (mOp (fIn false) (mOp fIx (mName 0) (mName 1)) (mName 2)))) B_run_end_1)
    (mRet [] (mName 1)))
noncomputable def B_tokens_1 : MS := (mKill [3] (mSeq (mSet 3 (mCB fMax3 (mCons (mCall F_run_end (mCons (mName 0) (mCons (mName 2) (mCons (mC (.str "abcdefghijklmnopqrstuvwxyz")) mNil)))) (mCons (mCall F_run_end (mCons (mName 0) (mCons (mName 2) (mCons (mC (.str "0123456789")) mNil)))) (mCons (mOp fAdd (mName 2) (mC (.int 1))) mNil)))))
    (mSeq (mExpr (mApp (mName 1) (mSl (mName 0) (mPart (mName 2)) (mPart (mName 3)))))
    (mSet 2 (mCall F_run_end (mCons (mName 0) (mCons (mName 3) (mCons (mC (.str " ")) mNil))))))))
noncomputable def F_tokens : FN := fnM 1 4 [] (mSeq (mOwn 1 (mLst mNil))
    (mSeq (mSet 2 (mCall F_run_end (mCons (mName 0) (mCons (mC (.int 0)) (mCons (mC (.str " ")) mNil)))))
    (mSeq (mKill [2] (mWhile (mTst (mOp fLt (mName 2) (mCB fLen (mCons (mName 0) mNil)))) B_tokens_1))
    (mRet [] (mCB fTuple (mCons (mName 1) mNil))))))
variable [CM]
abbrev dgtL : List Nat := [48, 49, 50, 51, 52, 53, 54, 55, 56, 57]
abbrev runL (sg u : List Nat) : Nat := (u.takeWhile fun c => decide (c ∈ sg)).length
theorem drop_cons {α : Type} {T u : List α} {i : Nat} {c : α} (h : T.drop i = c :: u) : i < T.length ∧ T[i]? = some c ∧ T.drop (i + 1) = u := by
  have h1 : i < T.length := by
    apply Classical.byContradiction
    intro hn
    rw [List.drop_eq_nil_of_le (by omega)] at h
    cases h
  rw [List.drop_eq_getElem_cons h1] at h
  injection h with h2 h3
  exact ⟨h1, by rw [List.getElem?_eq_getElem h1, h2], h3⟩
theorem run_loop (sg T : List Nat) (hz : T.length ≤ 1000000) : ∀ (u : List Nat) (i : Nat), T.drop i = u → i ≤ T.length → mWhile (mAndT (mTst (mOp fLt (mName 1) (mCB fLen (mCons (mName 0) mNil)))) (mTst (mOp (fIn false) (mOp fIx (mName 0) (mName 1)) (mName 2)))) B_run_end_1 [some (.val (dT T)), some (.val (.int (i : Nat))), some (.val (dT sg))] = .nx [some (.val (dT T)), some (.val (.int ((i + runL sg u : Nat) : Int))), some (.val (dT sg))]
  | [], i, hd, hi => by
    have hl : T.length ≤ i := List.drop_eq_nil_iff.mp hd
    have hz2 : T.length ≤ 16777216 := by omega
    have hnl : ¬ ((i : Int) < (T.length : Nat)) := by omega
    refine (while_end (e1 := [some (.val (dT T)), some (.val (.int (i : Nat))), some (.val (dT sg))]) ?_).trans ?_
    · simp -implicitDefEqProofs [hnl, hz2]
    · simp [runL]
  | c :: u, i, hd, hi => by
    obtain ⟨h1, h2, h3⟩ := drop_cons hd
    have hz2 : T.length ≤ 16777216 := by omega
    have hlt : (i : Int) < (T.length : Nat) := by omega
    have ha : atI T (i : Int) = some c := atI_nat h2
    have hh := hasS_tx sg c
    by_cases hm : c ∈ sg
    · rw [decide_eq_true hm] at hh
      have ih := run_loop sg T hz u (i + 1) h3 (by omega)
      rw [while_step (e1 := [some (.val (dT T)), some (.val (.int (i : Nat))), some (.val (dT sg))]) (e2 := [some (.val (dT T)), some (.val (.int ((i + 1 : Nat) : Int))), some (.val (dT sg))]) ?_ ?_ (by rw [ih]; simp), ih]
      · simp [runL, hm]; omega
      · simp -implicitDefEqProofs [hlt, ha, hh, hz2]
      · simp -implicitDefEqProofs [B_run_end_1]
    · rw [decide_eq_false hm] at hh
      refine (while_end (e1 := [some (.val (dT T)), some (.val (.int (i : Nat))), some (.val (dT sg))]) ?_).trans ?_
      · simp -implicitDefEqProofs [hlt, ha, hh, hz2]
      · simp [runL, hm]
theorem run_end_eq (sg T : List Nat) (hz : T.length ≤ 1000000) {i : Nat} (hi : i ≤ T.length) : F_run_end [.val (dT T), .val (.int (i : Nat)), .val (dT sg)] = .ok (.val (.int ((i + runL sg (T.drop i) : Nat) : Int))) [.val (dT T), .val (.int (i : Nat)), .val (dT sg)] := by
  have h := run_loop sg T hz _ i rfl hi
  simp -implicitDefEqProofs [F_run_end]
  rw [h]
  simp -implicitDefEqProofs
def lastW : List Nat → Prop
  | [] => True
  | c :: _ => c ∉ lettersL
def lastD : List Nat → Prop
  | [] => True
  | c :: _ => c ∉ dgtL
inductive Lex : List Nat → List (List Nat) → Prop
  | nil : Lex [] []
  | blank {t ws} : Lex t ws → Lex (32 :: t) ws
  | word {u t ws} : u ≠ [] → (∀ c ∈ u, c ∈ lettersL) → lastW t → Lex t ws → Lex (u ++ t) (u :: ws)
  | num {u t ws} : u ≠ [] → (∀ c ∈ u, c ∈ dgtL) → lastD t → Lex t ws → Lex (u ++ t) (u :: ws)
  | sign {c t ws} : c ≠ 32 → c ∉ lettersL → c ∉ dgtL → Lex t ws → Lex (c :: t) ([c] :: ws)
theorem let_dgt {c : Nat} (h : c ∈ lettersL) : c ∉ dgtL ∧ c ≠ 32 := by
  have : ∀ c ∈ lettersL, c ∉ dgtL ∧ c ≠ 32 := by decide
  exact this c h
theorem dgt_let {c : Nat} (h : c ∈ dgtL) : c ∉ lettersL ∧ c ≠ 32 := by
  have : ∀ c ∈ dgtL, c ∉ lettersL ∧ c ≠ 32 := by decide
  exact this c h
theorem run_all {sg u t : List Nat} (h : ∀ c ∈ u, c ∈ sg) (ht : ∀ c r, t = c :: r → c ∉ sg) : runL sg (u ++ t) = u.length := by
  unfold runL
  rw [List.takeWhile_append_of_pos (by simpa using h)]
  cases t with
  | nil => simp
  | cons c r => simp [ht c r rfl]
theorem run_none {sg : List Nat} {c : Nat} {t : List Nat} (h : c ∉ sg) : runL sg (c :: t) = 0 := by simp [runL, h]
theorem lex_step : ∀ {T : List Nat} {ws : List (List Nat)}, Lex T ws → (T.drop (runL [32] T) = [] ∧ ws = []) ∨ ∃ (c : Nat) (r w : List Nat) (ws' : List (List Nat)), T.drop (runL [32] T) = c :: r ∧ w = (c :: r).take (max (max (runL lettersL (c :: r)) (runL dgtL (c :: r))) 1) ∧ ws = w :: ws' ∧ Lex ((c :: r).drop w.length) ws' ∧ w.length = max (max (runL lettersL (c :: r)) (runL dgtL (c :: r))) 1 := by
  intro T ws h
  induction h with
  | nil => exact .inl ⟨rfl, rfl⟩
  | blank h ih =>
    rename_i t ws
    have e : runL [32] (32 :: t) = runL [32] t + 1 := by simp [runL]
    rw [e, List.drop_succ_cons]
    exact ih
  | word hu hl ht h ih =>
    rename_i u t ws
    cases u with
    | nil => exact absurd rfl hu
    | cons c u =>
      have hc := let_dgt (hl c (List.mem_cons_self ..))
      have e0 : runL [32] (c :: u ++ t) = 0 := run_none (sg := [32]) (t := u ++ t) (by simpa using hc.2)
      have e1 : runL lettersL (c :: u ++ t) = (c :: u).length := run_all hl fun d r hd => by subst hd; exact ht
      have e2 : runL dgtL (c :: u ++ t) = 0 := run_none (t := u ++ t) hc.1
      rw [e0, List.drop_zero]
      refine .inr ⟨c, u ++ t, c :: u, ws, rfl, ?_, rfl, ?_, ?_⟩
      · rw [show c :: (u ++ t) = c :: u ++ t from rfl, e1, e2, show max (max (c :: u).length 0) 1 = (c :: u).length by simp, List.take_left]
      · rw [show c :: (u ++ t) = c :: u ++ t from rfl, List.drop_left]; exact h
      · rw [show c :: (u ++ t) = c :: u ++ t from rfl, e1, e2]; simp
  | num hu hl ht h ih =>
    rename_i u t ws
    cases u with
    | nil => exact absurd rfl hu
    | cons c u =>
      have hc := dgt_let (hl c (List.mem_cons_self ..))
      have e0 : runL [32] (c :: u ++ t) = 0 := run_none (sg := [32]) (t := u ++ t) (by simpa using hc.2)
      have e1 : runL dgtL (c :: u ++ t) = (c :: u).length := run_all hl fun d r hd => by subst hd; exact ht
      have e2 : runL lettersL (c :: u ++ t) = 0 := run_none (t := u ++ t) hc.1
      rw [e0, List.drop_zero]
      refine .inr ⟨c, u ++ t, c :: u, ws, rfl, ?_, rfl, ?_, ?_⟩
      · rw [show c :: (u ++ t) = c :: u ++ t from rfl, e1, e2, show max (max 0 (c :: u).length) 1 = (c :: u).length by simp, List.take_left]
      · rw [show c :: (u ++ t) = c :: u ++ t from rfl, List.drop_left]; exact h
      · rw [show c :: (u ++ t) = c :: u ++ t from rfl, e1, e2]; simp
  | sign h0 h1 h2 h ih =>
    rename_i c t ws
    have e0 : runL [32] (c :: t) = 0 := run_none (sg := [32]) (by simpa using h0)
    have e1 := run_none (sg := lettersL) (t := t) h1
    have e2 := run_none (sg := dgtL) (t := t) h2
    rw [e0, List.drop_zero]
    exact .inr ⟨c, t, [c], ws, rfl, by rw [e1, e2]; rfl, rfl, h, by rw [e1, e2]; rfl⟩
theorem cut_mid (t : List Nat) (i n : Nat) (h : i + n ≤ t.length) : cutS (tx t) (some (i : Int)) (some ((i + n : Nat) : Int)) = tx ((t.drop i).take n) := by
  rw [C8.cutS_slice]
  have hl : ((tx t).length : Int) = (t.length : Int) := by rw [tx_len]
  have e := beq_iff_eq.mp (PyProof.Rows.slice_closes (x := tx t) (i := (i : Int)) (j := ((i + n : Nat) : Int)) ⟨by omega, by omega, by rw [tx_list]; omega⟩)
  refine e.trans (TL.ext_tl ?_)
  show (t.drop ((i : Int)).toNat).take (((i + n : Nat) : Int) - i).toNat = (t.drop i).take n
  rw [show ((i : Int)).toNat = i from rfl, show (((i + n : Nat) : Int) - i).toNat = n by omega]
theorem run_le (sg : List Nat) : ∀ u : List Nat, runL sg u ≤ u.length
  | [] => by simp [runL]
  | c :: u => by
    have ih := run_le sg u
    by_cases h : c ∈ sg
    · simp [runL, h] at ih ⊢; omega
    · rw [run_none h]; omega
theorem run_head (sg : List Nat) : ∀ (u : List Nat) (c : Nat) (r : List Nat), u.drop (runL sg u) = c :: r → c ∉ sg
  | [], c, r, h => by simp [runL] at h
  | d :: u, c, r, h => by
    by_cases hd : d ∈ sg
    · have e : runL sg (d :: u) = runL sg u + 1 := by simp [runL, hd]
      rw [e, List.drop_succ_cons] at h
      exact run_head sg u c r h
    · rw [run_none hd, List.drop_zero] at h
      injection h with h1 _
      rw [← h1]; exact hd
theorem lex_blanks {T : List Nat} {ws : List (List Nat)} (h : Lex T ws) : Lex (T.drop (runL [32] T)) ws := by
  induction h with
  | nil => exact .nil
  | blank h ih =>
    rename_i t ws
    have e : runL [32] (32 :: t) = runL [32] t + 1 := by simp [runL]
    rw [e, List.drop_succ_cons]
    exact ih
  | word hu hl ht h ih =>
    rename_i u t ws
    cases u with
    | nil => exact absurd rfl hu
    | cons c u =>
      have hc := let_dgt (hl c (List.mem_cons_self ..))
      have e0 : runL [32] (c :: u ++ t) = 0 := run_none (sg := [32]) (t := u ++ t) (by simpa using hc.2)
      rw [e0, List.drop_zero]
      exact .word hu hl ht h
  | num hu hl ht h ih =>
    rename_i u t ws
    cases u with
    | nil => exact absurd rfl hu
    | cons c u =>
      have hc := dgt_let (hl c (List.mem_cons_self ..))
      have e0 : runL [32] (c :: u ++ t) = 0 := run_none (sg := [32]) (t := u ++ t) (by simpa using hc.2)
      rw [e0, List.drop_zero]
      exact .num hu hl ht h
  | sign h0 h1 h2 h ih =>
    rename_i c t ws
    have e0 : runL [32] (c :: t) = 0 := run_none (sg := [32]) (by simpa using h0)
    rw [e0, List.drop_zero]
    exact .sign h0 h1 h2 h
theorem max3_nat (i a b : Nat) : fMax3 [.int ((i : Int) + (a : Int)), .int ((i : Int) + (b : Int)), .int ((i : Int) + 1)] = some (.val (.int ((i : Int) + ((max (max a b) 1 : Nat) : Int)))) := by
  have e : (if (if (i : Int) + (a : Int) < (i : Int) + (b : Int) then (i : Int) + (b : Int) else (i : Int) + (a : Int)) < (i : Int) + 1 then (i : Int) + 1 else (if (i : Int) + (a : Int) < (i : Int) + (b : Int) then (i : Int) + (b : Int) else (i : Int) + (a : Int))) = (i : Int) + ((max (max a b) 1 : Nat) : Int) := by
    by_cases h : (i : Int) + (a : Int) < (i : Int) + (b : Int)
    · rw [if_pos h]
      split <;> omega
    · rw [if_neg h]
      split <;> omega
  rw [fMax3_c1, e]
theorem tok_loop (T : List Nat) (hz : T.length ≤ 1000000) : ∀ (n : Nat) (i : Nat) (ws : List (List Nat)) (acc : List D), T.length - i ≤ n → i ≤ T.length → (∀ c r, T.drop i = c :: r → c ≠ 32) → Lex (T.drop i) ws → acc.length + (T.length - i) ≤ 1000000 →
    ∃ j, mWhile (mTst (mOp fLt (mName 2) (mCB fLen (mCons (mName 0) mNil)))) B_tokens_1 [some (.val (dT T)), some (.own (.lst acc)), some (.val (.int (i : Nat))), none] = .nx [some (.val (dT T)), some (.own (.lst (acc ++ ws.map dT))), some (.val (.int (j : Nat))), none]
  | n, i, ws, acc, hn, hi, hb, hx, ha => by
    have hz2 : T.length ≤ 16777216 := by omega
    have hb0 : ∀ c r, T.drop i = c :: r → runL [32] (T.drop i) = 0 := fun c r e => by rw [e]; exact run_none (by simpa using hb c r e)
    rcases lex_step hx with ⟨h1, rfl⟩ | ⟨c, r, w, ws', h1, h2, rfl, h4, h5⟩
    · have he : T.drop i = [] := by
        cases hd : T.drop i with
        | nil => rfl
        | cons c r => rw [hb0 c r hd, hd, List.drop_zero] at h1; cases h1
      have hl : T.length ≤ i := List.drop_eq_nil_iff.mp he
      have hnl : ¬ ((i : Int) < (T.length : Nat)) := by omega
      refine ⟨i, (while_end (e1 := [some (.val (dT T)), some (.own (.lst acc)), some (.val (.int (i : Nat))), none]) ?_).trans (by simp)⟩
      simp -implicitDefEqProofs [hnl, hz2]
    · have he : T.drop i = c :: r := by
        cases hd : T.drop i with
        | nil => rw [hd] at h1; simp at h1
        | cons c' r' => rw [hb0 c' r' hd, hd, List.drop_zero] at h1; exact h1
      obtain ⟨g1, g2, g3⟩ := drop_cons he
      have hlt : (i : Int) < (T.length : Nat) := by omega
      rw [← he] at h2 h4 h5
      have hw1 : 1 ≤ w.length := by rw [h5]; omega
      have hwl : i + w.length ≤ T.length := by
        have := congrArg List.length h2
        rw [List.length_take, List.length_drop] at this
        omega
      have r1 := run_end_eq lettersL T hz (i := i) hi
      have r2 := run_end_eq dgtL T hz (i := i) hi
      have r3 := run_end_eq [32] T hz (i := i + w.length) hwl
      have hcut := cut_mid T i w.length hwl
      have hwt : (T.drop i).take w.length = w := by rw [h5, ← h2]
      rw [hwt] at hcut
      have hcut : cutS (tx T) (some (i : Int)) (some ((i : Int) + (w.length : Int))) = tx w := hcut
      have hmx := max3_nat i (runL lettersL (T.drop i)) (runL dgtL (T.drop i))
      rw [← h5] at hmx
      have r3 : F_run_end [.val (dT T), .val (.int ((i : Int) + (w.length : Int))), .val (dT [32])] = _ := r3
      have hdr : (T.drop i).drop w.length = T.drop (i + w.length) := by rw [List.drop_drop]
      rw [hdr] at h4
      have hrl : runL [32] (T.drop (i + w.length)) ≤ (T.drop (i + w.length)).length := run_le _ _
      rw [List.length_drop] at hrl
      have hlx : Lex (T.drop (i + w.length + runL [32] (T.drop (i + w.length)))) ws' := by
        have := lex_blanks h4
        rwa [List.drop_drop] at this
      obtain ⟨j, hj⟩ := tok_loop T hz (n - 1) (i + w.length + runL [32] (T.drop (i + w.length))) ws' (acc ++ [dT w]) (by omega) (by omega) (fun c' r' e => by
        have := run_head [32] (T.drop (i + w.length)) c' r' (by rw [List.drop_drop]; exact e)
        simpa using this) hlx (by simp; omega)
      refine ⟨j, ?_⟩
      have e5 : acc ++ (w :: ws').map dT = acc ++ [dT w] ++ ws'.map dT := by simp
      rw [e5]
      have hal : acc.length < 16777216 := by omega
      rw [while_step (e1 := [some (.val (dT T)), some (.own (.lst acc)), some (.val (.int (i : Nat))), none]) (e2 := [some (.val (dT T)), some (.own (.lst (acc ++ [dT w]))), some (.val (.int ((i + w.length + runL [32] (T.drop (i + w.length)) : Nat) : Int))), none]) ?_ ?_ (by rw [hj]; simp), hj]
      · simp -implicitDefEqProofs [hlt, hz2]
      · generalize runL lettersL (T.drop i) = a at r1 hmx
        generalize runL dgtL (T.drop i) = b at r2 hmx
        generalize runL [32] (T.drop (i + w.length)) = b3 at r3 ⊢
        simp -implicitDefEqProofs [B_tokens_1, letters_tx, digits_tx, blank_tx, r1, r2, r3, hmx, hcut, hal, hz2, -fMax3_c1]
  termination_by n => n
  decreasing_by all_goals omega
theorem tokens_lex {T : List Nat} {ws : List (List Nat)} (h : Lex T ws) (hz : T.length ≤ 500000) (hw : ws.length ≤ 16777216) : F_tokens [.val (dT T)] = .ok (.val (.tup (ws.map dT))) [.val (dT T)] := by
  have r0 := run_end_eq [32] T (by omega) (i := 0) (Nat.zero_le _)
  rw [List.drop_zero, Nat.zero_add] at r0
  have r0 : F_run_end [.val (dT T), .val (.int 0), .val (dT [32])] = _ := r0
  have hle := run_le [32] T
  obtain ⟨j, hj⟩ := tok_loop T (by omega) (T.length - runL [32] T) (runL [32] T) ws [] (Nat.le_refl _) hle (fun c r e => by
    have := run_head [32] T c r e
    simpa using this) (lex_blanks h) (by simp; omega)
  rw [List.nil_append] at hj
  generalize runL [32] T = k at r0 hj
  simp -implicitDefEqProofs [F_tokens, blank_tx, r0]
  rw [hj]
  simp -implicitDefEqProofs [hw]
end VL
set_option Elab.async false
set_option linter.all false
set_option maxRecDepth 100000
set_option maxHeartbeats 4000000
namespace VL
open PySem PySem.Spec PyProof.Rows L2
variable [CM]
theorem MCallee.none0 {P : Program} {w : World} {K : PySem.W.Frag} {mg : Str → Option Value} {base : Heap} {T : List Addr} {C m qual : Str} {st : Stmt} {k : Nat} {ps : List Str} {f : Addr} {fd : FuncData} {Fn : FN} (F : FunM K C m qual st ps f fd) (hF : ∀ ms, Fn ms = .no := by intro _; rfl) : MCallee P w K mg base T C m k ps (spF Fn) f fd := by
  have no : ∀ {vs H Q E}, spOf K T (spF Fn) vs H Q E → False := fun h => by
    obtain ⟨_, _, _, _, _, h, _⟩ := h
    unfold spF at h
    rw [hF] at h
    exact h
  exact ⟨⟨fun vs H Q E h => (no h).elim, fun A outer s H args us vs Q E _ _ _ _ h => (no h).elim⟩, F.cl, F.me, F.b⟩
end VL
set_option Elab.async false
set_option linter.all false
set_option maxRecDepth 100000
set_option maxHeartbeats 4000000
namespace VL
open PySem PySem.Spec PyProof.Rows L2
variable [CM]
end VL
set_option Elab.async false
set_option linter.all false
set_option maxRecDepth 100000
set_option maxHeartbeats 4000000
namespace VL
open PySem PySem.Spec PyProof.Rows L2 NdefX
def xinSp (C : Addr) (fld : Str) : L2.Sp := fun vs H Q _ => ∃ (a : Addr) (v : V), vs = [.ref a, v] ∧ H a = some (exo a C none) ∧ ∀ dx, H dx = none → dx ≠ a → Q .non (upd (upd H dx (exd dx [(fld, v)])) a (exo a C (some dx)))
structure XIn (P : Program) (K : PySem.W.Frag) (C f cc cda : Addr) (qual fld : Str) : Prop where
  t : OexC K C
  cd : ∃ cd, PySem.W.clsIn K C = some cd
  su : PySem.W.ks_superIn K C C "__init__" = some (some (.builtin "ValueError.__init__"))
  ve : PySem.W.subIn K (.ref C) (.type "ValueError") = some true
  me : PySem.W.mroIn K C (.ref C) = some true
  no : PySem.W.findIn K (.ref C) fld = some none
  cell : ∃ ccl cdd ccs, K.lookup cc = some ⟨ccl, cdd, .cell (some (.ref C)), ccs⟩
  code : ∃ oc od vs sl file tf, K.lookup cda = some ⟨oc, od, .fields vs, sl⟩ ∧ vs[2]? = some (.str file tf) ∧ ((P.main.file : Str) == file) = true
  cr : PySem.W.codeIn K (.ref cda) qual = true
  sup : PySem.W.nsIn K mainGlobals "super" = some none
  any : PySem.W.nsIn K cStatics "thirdparty.any" = some none
  top : (P.main.scope.names.lookup ("super" : Str)).isSome = false
section
variable {CX : CXT} {P : Program} {w : World} {K : PySem.W.Frag} {mg : Str → Option Value} {base : Heap} {k : Nat} {f C cc cda : Addr} {qual fld x msg : Str} {params : Arguments} {body : List Stmt} {scope : Scope} {dV kV doc pm ct oc : Value} {an od : Option Addr} {osl : Array (Option Value)}
  {p0 p1 p2 p3 p4 p5 p6 p7 p8 p9 : Pos} {j : Nat} {ar : Arg}
theorem cw1 {M : Model} {A : Around} {E : Value → Shared → Prop} {s : Shared} {i : String} {u a : Addr} {pos : Pos} {env : PySem.Env} {e : Expr} {rest : List Expr} {Q : Value → Shared → Prop}
    (h : wpAny M A (spliced (backTo pos (starEach (e :: rest) env))) (fun vs s₁ => PySem.W.KxsAt i u a s₁.heap ∧ wpAny M A (call (.ref u) vs) Q E s₁) E s)
    (he : starEach (e :: rest) env = (false, eval e env) :: starEach rest env := by rfl) (hplain : (backTo pos (starEach rest env)).any (·.1) = false := by rfl) :
    wpAny M A (callWith pos (.ref u) [] (backTo pos (starEach (e :: rest) env)) []) Q E s := by
  rw [he] at h ⊢
  refine PySem.W.kxs_callWith (i := i) (x := a) (by show (false || (backTo pos (starEach rest env)).any (·.1)) = false; rw [hplain]; rfl) ?_
  exact PySem.Calls.evalArgs_plain h
theorem call_vei {prog : Program} {w : World} {A : Around} {E : Value → Shared → Prop} {s : Shared} {u a C t0 : Addr} {rest : List Value} {Q : Value → Shared → Prop} {nm q : Str} {N : Addr} {bs bm : List Value} {sn : List Str} {sub : List Value} {ab : Bool} {col : Option Bool} {dd : Option Addr} {k0 k1 k2 k3 k5 : Option Value}
    (hC : s.heap.get? C = some (excClassObj nm q C N bs bm true sn sub ab col dd k0 k1 k2 k3 k5 "ValueError.__new__")) (hu : s.heap.get? u = some (PySem.W.kxs_mw "ValueError.__init__" a)) (ha : s.heap.get? a = some (PySem.W.excObj C t0 none .none)) (hz : rest.length ≤ sizeLine)
    (h : ∀ t' h', (∀ b o, b ≠ a → s.heap.get? b = some o → h'.get? b = some o) → h'.get? a = some (PySem.W.excObj C t' none .none) → Q .none { s with heap := h' }) : wpAny (model prog w) A (call (.ref u) rest) Q E s := by
  obtain ⟨hh, g, d, tk, os⟩ := s
  refine wpAny_call (codeAny_of_tree ?_)
  show wpAny _ A.in1 (callAny (.ref u) ⟨rest, []⟩) _ _ _
  simp only [callAny]
  refine wpAny_bind (wpAny_load hu ?_)
  simp only [PySem.W.kxs_mw, show (Value.type "method-wrapper" == Value.type "method" || Value.type "method-wrapper" == Value.type "builtin_function_or_method" || Value.type "method-wrapper" == Value.type "method-wrapper") = true by decide, if_true]
  refine PySem.W.KFB.if_so (by decide) ?_
  refine wpAny_bind (PySem.W.check_bound_init F.excBase_ValueError.toExcCallFacts hC ha rfl ?_)
  refine wpAny_bind (wpAny_pure (wpAny_pure ?_))
  refine ⟨plainId_quiet F.excBase_ValueError.init.plain _, codeAny_builtin F.excBase_ValueError.initEntry ?_⟩
  exact PySem.W.exc_init_tree (cls := .ref C) (t0 := t0) (dv := none) (c2 := .none) (c3 := .none) (b4 := .bool false) ha hz fun h' k e _ => h _ h' k e
theorem xinit_ok (T : XIn P K C f cc cda qual fld)
    (lk : K.lookup f = some ⟨oc, od, .func (PySem.W.fnX "__init__" qual params body scope [("__class__", cc)] dV kV doc pm an (.ref cda) ct), osl⟩)
    (S : NScope ["self", x, "__class__"] ["self", x] ["__class__"] scope) (hp : (params.posonlyargs ++ params.args).head? = some ar) (har : ar.arg = "self")
    (hsm : mg "super" = none) (hks : scope.names.lookup ("super" : Str) = some .globalImplicit) (hxs : (x == ("__debug__" : Str)) = false) (hxc : (x == ("__classdict__" : Str)) = false)
    {pl : Sem Bool} (he : ∀ env : PySem.Env, eval (.Call (.Attribute (.Call (.Name "super" p0) [] [] p1) "__init__" p2) [.Constant (.str msg) j p3] [] p4) env = (do
      let ov ← attributeBase (.Call (.Name "super" p0) [] [] p1) "__init__" env (eval (.Call (.Name "super" p0) [] [] p1) env)
      standAt p2.atName
      let (f, first) ← holding [ov] (getMethod ov "__init__" pl)
      callWith p4 f first (backTo p4 (starEach [.Constant (.str msg) j p3] env)) []))
    (hbody : body = [.Expr (.Call (.Attribute (.Call (.Name "super" p0) [] [] p1) "__init__" p2) [.Constant (.str msg) j p3] [] p4) p5, .Assign [.Attribute (.Name "self" p6) fld p7] (.Name x p8) p9]) :
    FnOk P w K mg base CX (k + 1) f (PySem.W.fnX "__init__" qual params body scope [("__class__", cc)] dV kV doc pm an (.ref cda) ct) ["self", x] (xinSp C fld) := by
  refine ⟨fun vs H Q E h => by obtain ⟨a, v, rfl, _⟩ := h; rfl, fun A outer s H args us vs Q E hr e0 hb r hsp => ?_⟩
  obtain ⟨a, v, rfl, ea, q⟩ := hsp
  have KX : K.In s.heap := e0.mod.kin.keeps fun b o e => (e0.bs b o e).1
  have lim : s.heap.NoLimit := e0.mod.nolimit.keeps fun b o e => (e0.bs b o e).1
  obtain ⟨ccl, cdd, ccs, hcell⟩ := T.cell
  have hHcc : H cc = none := (e0.bs cc _ (e0.mod.kin _ _ hcell)).2
  subst hbody
  let body : List Stmt := [.Expr (.Call (.Attribute (.Call (.Name "super" p0) [] [] p1) "__init__" p2) [.Constant (.str msg) j p3] [] p4) p5, .Assign [.Attribute (.Name "self" p6) fld p7] (.Name x p8) p9]
  let F : NF := ⟨"__init__", qual, params, body, scope, [("__class__", cc)], cda⟩
  have CA : CellsAt F.cl ["__class__"] [none] s.heap H := by
    refine ⟨rfl, fun y c hc => ?_, fun x y c h1 h2 => ?_, fun i y hi => ?_⟩
    · have hc : List.lookup y [(("__class__" : Str), cc)] = some c := hc
      simp only [List.lookup] at hc
      split at hc
      · cases hc; exact ⟨hHcc, _, _, KX _ _ hcell, rfl⟩
      · cases hc
    · have h1 : List.lookup x [(("__class__" : Str), cc)] = some c := h1
      have h2 : List.lookup y [(("__class__" : Str), cc)] = some c := h2
      simp only [List.lookup] at h1 h2
      split at h1
      · split at h2
        · rename_i e1 _ e2
          rw [eq_of_beq e1, eq_of_beq e2]
        · cases h2
      · cases h1
    · cases i with
      | zero =>
        cases hi
        exact ⟨cc, by simp [F, List.lookup], fun v hv => by cases hv⟩
      | succ i => cases hi
  refine codeAny_call_function hr.depth (KX _ _ lk) rfl S.co S.gen rfl (PySem.W.codeRec_of KX T.cr) (hb _ _ _ _ ?_)
  refine wpAny_newFunctionEnv S.nocell (fun ⟨n, _⟩ hy => S.par n (List.of_mem_zip hy).1) (fun h₁ hns hsb => ⟨lim.fresh _ hsb, ?_⟩) S.kind
  show codeAny _ _ (.func body (envF F f s.heap.objs.size)) _ _
  refine ks_codeAny_funcAt ?_
  have kp : ∀ b o, s.heap.get? b = some o → h₁.get? b = some o := fun b o e => hsb.extBut b o (Nat.ne_of_lt (Heap.lt_size e)) (Heap.get?_push_of_some _ e)
  have I : L2.Inv (ncx CX P w K mg base ["self", x, "__class__"] F f A outer s H E) [] (startF ["self", x, "__class__"] [.ref a, v] [none]) H { s with heap := h₁, toks := s.toks + ((["self", x] : List Str).zip us).length } := inv_startN S hr.hd e0 rfl r CA hns kp
  obtain ⟨nm, qn, N, bs, bm, sn, sub, ab, col, dd, k0, k1, k2, k3, k5, hC, hbm⟩ := T.t.cls
  obtain ⟨cd, hcd⟩ := T.cd
  obtain ⟨occ, odc, vsc, slc, file, tf, hcode, hvs, hfile⟩ := T.code
  have KX1 : K.In h₁ := KX.keeps kp
  obtain ⟨t0, hx0⟩ := exo_at I.hok ea
  have hks' : (envF F f s.heap.objs.size).kindOf "super" = some .globalImplicit := hks
  have hkc' : (envF F f s.heap.objs.size).kindOf "__class__" = some .free := S.frk "__class__" (by simp)
  have hself : (envF F f s.heap.objs.size).kindOf "self" = some .local := S.par "self" (by simp)
  obtain ⟨oD, hD1, hD2⟩ : ∃ oD, h₁.get? C = some oD ∧ oD.data = .cls cd := by
    unfold PySem.W.clsIn at hcd
    split at hcd
    · rename_i c d cd' sl ho
      cases hcd
      exact ⟨_, KX1 _ _ ho, rfl⟩
    · cases hcd
  have xC : a ≠ C := by
    rintro rfl
    have e0 : PySem.W.clsIn K a = some cd := hcd
    rw [hx0] at hD1
    cases hD1
    cases hD2
  refine ks_wpAt_execs_cons (ks_wpAt_Expr_any (ks_wpAt_MethodCall (pl := pl) ?_ (he _)) I.quiet)
  refine ks_wpAt_super_base (f := f) (cc := cda) (ar := ar) hks' hkc' rfl rfl (KX1 _ _ lk) rfl hp rfl (KX1 _ _ hcode) rfl hvs hfile T.top ?_
  refine PySem.W.ks_loadName_global S.kind hks' ?_
  obtain ⟨mb, b1, b2⟩ := I.mod.blt
  refine PySem.Calls.loadGlobal_builtin (I.mod.glob.keeps I.bk) hsm (b1.keeps I.bk) ((b2 "super" (by decide)).trans (by decide +kernel : bootBuiltins "super" = some (.type "super"))) ⟨rfl, ?_⟩
  refine wpAny_loadName_free S.kind hkc' rfl ⟨_, KX1 _ _ hcell, rfl⟩ ?_
  obtain ⟨u1, u2, rfl, ru1, ru2⟩ : ∃ u1 u2, us = [u1, u2] ∧ RelV (.ref a) u1 ∧ RelV v u2 := by
    cases r with
    | cons r1 r2 =>
      cases r2 with
      | cons r2 r3 => cases r3; exact ⟨_, _, rfl, r1, r2⟩
  obtain rfl : u1 = Value.ref a := ru1
  have nd2 : (["self", x] : List Str).Nodup := by
    have := S.nd.sublist (List.take_sublist 2 _)
    exact this
  rw [har]
  refine wpAny_loadName_local S.kind hself hns (zip_look (i := 0) nd2 rfl rfl) ?_
  refine ks_wpAny_isType_cls hD1 hD2 ⟨rfl, ?_⟩
  refine ks_wpAny_call_super hD1 hD2 hx0 rfl (fun c e => by cases e) (PySem.W.looks_mroIn KX1 T.me) (fun h2 e2 kp2 => ?_)
  have KX2 : K.In h2 := KX1.keeps kp2
  have hI : PySem.W.Looks (model P w) h2 (isInstance (.ref a) (.type "ValueError")) true := (PySem.W.InstAt.type (⟨kp2 _ _ hx0, rfl, rfl, trivial⟩ : PySem.W.InstAt h2 a _ C none)).andThen (PySem.W.looks_subIn KX2 T.ve)
  have hsu := T.su
  unfold PySem.W.ks_superIn at hsu
  rw [hcd] at hsu
  refine PySem.W.kxs_getMethod PySem.W.kxs_ValueError e2 (PySem.W.looks_opaque KX2 T.any) (l₀ := cd.mro) (fun A Q E s k q => wpAny_bind ((PySem.W.looks_clsIn KX2 hcd) A _ E s k (wpAny_pure q))) rfl KX2 hsu hI xC (by decide) ?_
  have kp3 : ∀ b o, h2.get? b = some o → (h2.push (PySem.W.kxs_mw "ValueError.__init__" a)).get? b = some o := fun b o e => Heap.get?_push_of_some _ e
  have hu : (h2.push (PySem.W.kxs_mw "ValueError.__init__" a)).get? h2.objs.size = some (PySem.W.kxs_mw "ValueError.__init__" a) := Heap.get?_push_size _ rfl
  refine cw1 (i := "ValueError.__init__") (a := a) ?_
  refine PySem.Calls.spliced_cons ?_
  show wpAny _ _ (eval (.Constant (.str msg) j p3) (envF F f s.heap.objs.size)) _ _ _
  refine PySem.Calls.Constant_str ?_
  refine PySem.Calls.spliced_nil ⟨hu, ?_⟩
  have I3 := I.kept (h' := h2.push (PySem.W.kxs_mw "ValueError.__init__" a)) (t' := s.toks + ((["self", x] : List Str).zip [Value.ref a, u2]).length + 1 + 1) fun b o e => kp3 _ _ (kp2 _ _ e)
  refine call_vei (KX2.keeps kp3 _ _ hC) hu (kp3 _ _ (kp2 _ _ hx0)) (by rw [sizeLine_eq]; simp) fun t1 h4 k4 e4 => ?_
  have J := I3.write (t' := s.toks + ((["self", x] : List Str).zip [Value.ref a, u2]).length + 1 + 1) (x := a) (e := a) (o := exo a C none) (by rw [ea]; exact True.intro) (.inl rfl) k4 ⟨_, e4⟩ (exo_ok e4)
  have eu : upd H a (exo a C none) = H := by
    funext b
    by_cases hb : b = a
    · rw [hb, upd_same, ea]
    · rw [upd_ne hb]
  rw [eu] at J
  refine wpAt_of_wpAny ?_
  have ps : PSs (ncx CX P w K mg base ["self", x, "__class__"] F f A outer s H E) [.Assign [.Attribute (.Name "self" p6) fld p7] (.Name x p8) p9] (tOst K fld (tVar 0) (tVar 1)) :=
    pss_one (ps_ost (pe_var (i := 0) rfl (.inl (S.par "self" (by simp)))) (pe_var (i := 1) rfl (.inl (S.par x (by simp))) hxs hxc) rfl)
  refine wpAny_mono (ps.run [] _ (startF ["self", x, "__class__"] [.ref a, v] [none]) H { nx := fun _ H' => Q .non H', rt := Q } J ⟨v, rfl, .ref a, rfl, a, C, rfl, T.t, T.no, .inl ⟨ea, fun dx n1 n2 => q dx n1 n2⟩⟩) (fun fl s' hs => ?_) fun e s' hs => hs
  have fin : ∀ {σ' : L2.St} {H' : Hp} {v : V} {u : Value}, L2.Inv (ncx CX P w K mg base ["self", x, "__class__"] F f A outer s H E) [] σ' H' s' → L2.RelV v u → Q v H' → CE outer P w H s Q u s' :=
    fun {σ' H' v u} J rv q => ⟨v, H', J.os, J.bare, J.base, J.hok, rv, q⟩
  cases fl with
  | ret u =>
    obtain ⟨v, σ', H', J, rv, q⟩ := hs
    exact fin J rv q
  | next =>
    obtain ⟨σ', H', J, q⟩ := hs
    exact fin (v := V.non) (u := Value.none) J rfl q
  | brk =>
    obtain ⟨_, _, _, q⟩ := hs
    exact False.elim q
  | cont =>
    obtain ⟨_, _, _, q⟩ := hs
    exact False.elim q
end
end VL
set_option Elab.async false
set_option linter.all false
set_option maxRecDepth 100000
set_option maxHeartbeats 4000000
namespace VL
open PySem PySem.Spec PyProof.Rows L2 NdefX
section
variable {X : Cx} {x y fld : Str} {e : Expr} {te : TE} {p pos : Pos} {C fI : Addr} {k : Nat} {fd : FuncData}
def tXf1 (C : Addr) (fld : Str) (te : TE) : L2.St → Hp → XK → Prop := fun σ H Q => te σ H fun v H1 => ∃ v' : V, [v] = [v'] ∧ ∀ d, H1 d = none → Q (.ref C) (some d) (upd H1 d (.xd [(fld, v')]))
theorem pmk_xf (T : OexC X.K C) (iC : PySem.W.findIn X.K (.ref C) "__init__" = some (some (.ref fI))) (tI : PySem.W.typeIn X.K (.ref fI) = some (.type "function"))
    (F1 : FnOk X.prog X.w X.K X.mg X.base (L2N.CX X.prog X.w) k fI fd ["self", y] (xinSp C fld)) (hr : Room (k + 1) X.A) (hb : Binds X.K fd ["self", y] []) (hm : X.mg x = some (.ref C)) (ha : PE X e te) (hg : Gl X x := by rfl)
    (hdb : (x == ("__debug__" : Str)) = false := by decide) (he : starEach [e] X.env = (false, eval e X.env) :: starEach [] X.env := by rfl) (hpl : (backTo pos (starEach [] X.env)).any (·.1) = false := by rfl) :
    L2N.PMk X (.Call (.Name x p) [e] [] pos) (tXf1 C fld te) := by
  intro pins s σ H Q I h
  obtain ⟨nm, q, N, bs, bm, sn, sub, ab, col, dd, k0, k1, k2, k3, k5, hC, hbm⟩ := T.cls
  refine wpAny_Call_Name_kw (ld_glob I hg hm ?_ hdb)
  have hpa : PA X [e] (tCons te tNil) := pa_cons ha pa_nil he
  refine PySem.W.callWith_K (h₀ := X.base) I.ok.mod.kin T.kC (thn (hpa.run pos pins s σ H (fun vs H1 => ∃ v, vs = [v] ∧ ∀ d, H1 d = none → Q (.ref C) (some d) (upd H1 d (.xd [(fld, v)]))) I h) fun us s1 hh => ?_) he hpl
  obtain ⟨vs, H1, I1, r1, v, rfl, q1⟩ := hh
  refine ⟨I1.kIn, ?_⟩
  obtain ⟨u, rfl, ru⟩ : ∃ u, us = [u] ∧ RelV v u := by
    cases r1 with
    | cons r1 r2 => cases r2; exact ⟨_, rfl, r1⟩
  show wpAny _ _ (call (.ref C) [u]) _ _ _
  obtain ⟨hp, g, dr, tk, os⟩ := s1
  let a : Addr := hp.objs.size + 1
  let h2 : Heap := (hp.push (PySem.W.kdv_tup [u])).push (PySem.HandSPX.excO C hp.objs.size)
  have za : hp.objs.size ≤ a := Nat.le_succ _
  have na : H1 a = none := I1.hok.fresh za
  have kk : ∀ b o, hp.get? b = some o → h2.get? b = some o := fun b o e => Heap.get?_push_of_some _ (Heap.get?_push_of_some _ e)
  have ga : ((hp.push (PySem.W.kdv_tup [u])).push (PySem.HandSPX.excO C hp.objs.size)).get? (hp.objs.size + 1) = some (PySem.HandSPX.excO C hp.objs.size) := by heap_get
  have I2 : L2.Inv X pins σ (upd H1 a (exo a C none)) ⟨h2, g, dr, tk, os⟩ := I1.laid (t' := tk) kk za (exo_ok ga)
  have r2 : Vals [V.ref a, v] [Value.ref a, u] := .cons rfl (.cons ru .nil)
  have bb := hb ⟨h2, g, dr, tk, os⟩ [Value.ref a, u] I2.kIn rfl
  let Q2 : VK := fun v2 H2 => v2 = .non ∧ ∃ d : Addr, d ≠ a ∧ H1 d = none ∧ H2 = upd (upd (upd H1 a (exo a C none)) d (exd d [(fld, v)])) a (exo a C (some d))
  have hsp : xinSp C fld [.ref a, v] (upd H1 a (exo a C none)) Q2 (fun _ _ _ => False) :=
    ⟨a, v, rfl, upd_same, fun dx n1 n2 => ⟨rfl, dx, n2, by rw [upd_ne n2] at n1; exact n1, rfl⟩⟩
  have hz : ([u] : List Value).length ≤ sizeLine := by rw [sizeLine_eq]; simp
  refine wpAny_call (PySem.HandSPX.call_own F.excBase_ValueError (fun Y => PySem.HandSPX.refsVE_contains Y bm hbm) (I1.kIn _ _ hC) (PySem.W.looks_findIn I1.kIn iC) (fun self => PySem.W.bind_fn I1.kIn self tI) hz (codeAny_mono (F1.run _ X.stack ⟨h2, g, dr, tk, os⟩ _ ⟨[Value.ref a, u], []⟩ [Value.ref a, u] [V.ref a, v] Q2 (fun _ _ _ => False) (hr.make C [u] []) (I2.env0.make C [u] []) bb r2 hsp) fun r s' hq' => ?_))
  cases r with
  | error er =>
    obtain ⟨_, _, _, _, _, _, _, _, _, _, _, _, z⟩ := hq'
    exact z.elim
  | ok fl =>
    cases fl with
    | ret w =>
      obtain ⟨v2, H2, os2, bare2, un2, hok2, rv, ev, d, dna, nd, eH2⟩ := hq'
      obtain ⟨h3, g3, d3, t3, os'⟩ := s'
      have ea : H2 a = some (exo a C (some d)) := by rw [eH2, upd_same]
      have ed : H2 d = some (exd d [(fld, v)]) := by rw [eH2, upd_ne dna, upd_same]
      obtain ⟨t0, G, J, kG, ge, hoe, nn⟩ := mk_end0 (d2 := d3) (t2 := t3) I1 za kk un2 hok2 os2 bare2 ea ed nd
      subst ev
      have hH : upd (L2.del H2 a) d (.xd [(fld, v)]) = upd H1 d (.xd [(fld, v)]) := by
        funext b
        by_cases hb : b = d
        · subst hb; rw [upd_same, upd_same]
        · rw [upd_ne hb, upd_ne hb]
          by_cases hba : b = a
          · rw [hba, del_same, na]
          · rw [del_ne hba, eH2, upd_ne hba, upd_ne hb, upd_ne hba]
      rw [hH] at J nn
      exact ⟨rv, a, _, _, ⟨G, g3, d3, t3, os'⟩, _, .ref C, some d, rfl, J, kG, ge, hoe, ⟨rfl, rfl, fun vs hv => by cases hv; rfl⟩, rfl, rfl, nn, rfl, bare2, raises_own T.exC T.tyC, q1 d nd⟩
    | next => exact False.elim hq'
    | brk => exact False.elim hq'
    | cont => exact False.elim hq'
end
variable [CM]
structure ExcF (P : Program) (w : World) (K : PySem.W.Frag) (mg : Str → Option Value) (base : Heap) (C fld : Str) : Prop where
  t : OexC K (CM.at_ C)
  fn : ∃ (fI : Addr) (fd : FuncData) (y : Str), PySem.W.findIn K (.ref (CM.at_ C)) "__init__" = some (some (.ref fI)) ∧ PySem.W.typeIn K (.ref fI) = some (.type "function") ∧ FnOk P w K mg base (L2N.CX P w) 1 fI fd ["self", y] (xinSp (CM.at_ C) fld) ∧ Binds K fd ["self", y] []
  g : mg C = some (.ref (CM.at_ C))
  is : IsExc K C
section
variable {c : VC} {Wx : WX} {X : Cx}
def rs1 (C fld : Str) : R Env W → SR
  | .ok (.val d) e => .ex C [(fld, d)] e
  | .ex C' fs e => .ex C' fs e
  | _ => .no
@[simp] theorem rs1_1 (C fld : Str) (d e) : rs1 C fld (.ok (.val d) e) = .ex C [(fld, d)] e := rfl
@[simp] theorem rs1_2 (C fld C' : Str) (fs e) : rs1 C fld (.ex C' fs e) = .ex C' fs e := rfl
@[simp] def mRaise1 (C fld : Str) (m : ME) (e : Env) : SR := rs1 C fld (m e)
theorem fst_raise1 {C fld : Str} {e : Expr} {te : TE} {m : ME} {p pos pos2 : Pos} (E : ExcF X.prog X.w X.K X.mg X.base C fld) (hr : Room 2 X.A) (tk : L2N.Takes X Wx) (he : FE X c Wx e te m) (hc : X.calm = true := by rfl) (hg : Gl X C := by rfl) (hdb : (C == ("__debug__" : Str)) = false := by decide)
    (hs : starEach [e] X.env = (false, eval e X.env) :: starEach [] X.env := by rfl) (hpl : (backTo pos (starEach [] X.env)).any (·.1) = false := by rfl) :
    FSt X c Wx (.Raise (some (.Call (.Name C p) [e] [] pos)) none pos2) (fun _ σ H => tXf1 (CM.at_ C) fld te σ H fun cls d H' => Wx cls d σ H') (mRaise1 C fld m) := by
  obtain ⟨fI, fd, y, iC, tI, F1, hb⟩ := E.fn
  have hv : VMk X c Wx (.Call (.Name C p) [e] [] pos) (tXf1 (CM.at_ C) fld te) (fun env Q QX => vR m env (fun w env1 => ∃ d, w = .val d ∧ Q C [(fld, d)] env1) QX) := by
    refine ⟨pmk_xf E.t iC tI F1 hr hb E.g he.pe hg hdb hs hpl, fun f Hb env σ H Q QX Q' R q px k => ?_⟩
    refine he.sim f Hb env σ H _ QX _ R q px fun w env1 v H1 Hb1 s1 R1 r1 q1 => ?_
    obtain ⟨d, rfl, q1⟩ := q1
    refine ⟨v, rfl, fun dd nd => ?_⟩
    have x : ExtH Hb1 H1 (upd Hb1 dd (.xd [(fld, v)])) (upd H1 dd (.xd [(fld, v)])) := ExtH.new R1.sub nd
    have r1 : Rp X.K Hb1 d v := r1
    exact k C [(fld, d)] env1 (some dd) _ _ (s1.trans x.b) (R1.ext x) ⟨E.is, .inr ⟨by simp, dd, [(fld, v)], rfl, upd_same, .cons (r1.mn x.b) .nil⟩⟩ q1
  refine (vst_raise tk hv hc).weak fun DV env h => ?_
  have h : (rs1 C fld (m env)).po DV := h
  show (m env).po _ _
  cases hm : m env with
  | ok w e1 =>
    rw [hm] at h
    cases w with
    | val d => exact ⟨d, rfl, h⟩
    | tmp oc => exact h.elim
    | cel i => exact h.elim
  | ex C' fs e1 => rw [hm] at h; exact h
  | no => rw [hm] at h; exact h.elim
end
end VL
set_option Elab.async false
set_option linter.all false
set_option maxRecDepth 100000
set_option maxHeartbeats 4000000
namespace VL
open PySem PySem.Spec PyProof.Rows L2
variable [CM]
section
variable {K : PySem.W.Frag} {c : VC} {Wx : WX} {X : Cx}
def flatD : D → Option V
  | .int i => some (.int i)
  | .str x => some (.str x)
  | _ => none
def flatF : List (Str × D) → Option (List (Str × V))
  | [] => some []
  | (n, d) :: fs => match flatD d, flatF fs with
    | some v, some gs => some ((n, v) :: gs)
    | _, _ => none
def DOk (fs : List (Str × D)) (gs : List (Str × V)) (d : Option Addr) (l : List (Addr × List (Str × V))) : Prop := flatF fs = some gs ∧ ((d = none ∧ fs = [] ∧ l = []) ∨ ∃ dd, d = some dd ∧ l = [(dd, gs)])
def mXf (f : Str) (fs : List (Str × D)) (e : Env) : R Env W := match fs.lookup f with
  | some d => .ok (.val d) e
  | none => .no
@[simp] theorem mXf_1 (f : Str) (d : D) (e : Env) : mXf f [(f, d)] e = .ok (.val d) e := by
  unfold mXf; rw [List.lookup_cons_self]
theorem DOk.at {fs : List (Str × D)} {gs : List (Str × V)} {d : Option Addr} {l : List (Addr × List (Str × V))} (h : DOk fs gs d l) {Hb H : Hp} (s : Same Hb H) (hl : ∀ q ∈ l, Hb q.1 = some (.xd q.2)) : ∀ dd, d = some dd → ∃ gs, H dd = some (.xd gs) := fun dd e => by
  rcases h.2 with ⟨h1, _⟩ | ⟨d2, h1, h2⟩
  · rw [h1] at e; cases e
  · rw [h1] at e; cases e
    exact ⟨gs, s _ _ (hl (dd, gs) (by rw [h2]; simp))⟩
noncomputable def catF (i : Nat) (Y : Str) (suite : Str → List (Str × D) → MS) (C : Str) (fs : List (Str × D)) (e : Env) : SR :=
  cif (isXb C Y = true) (cif ((flatF fs).isSome = true ∧ i < e.length) (endX i (suite C fs (e.set i none))) .no) (.ex C fs e)
@[simp] theorem catF_0 (i : Nat) (suite : Str → List (Str × D) → MS) (C : Str) (e : Env) (h : i < e.length) : catF i (Str.ofString "CubeError") suite C [] e = endX i (suite C [] (e.set i none)) := by
  unfold catF
  rw [cif_pos (isXb_top C), cif_pos ⟨rfl, h⟩]
@[simp] theorem catF_1 (i : Nat) (suite : Str → List (Str × D) → MS) (C f : Str) (n : Int) (e : Env) (h : i < e.length) : catF i (Str.ofString "CubeError") suite C [(f, .int n)] e = endX i (suite C [(f, .int n)] (e.set i none)) := by
  unfold catF
  rw [cif_pos (isXb_top C), cif_pos ⟨rfl, h⟩]
@[simp] theorem catF_2 (i : Nat) (suite : Str → List (Str × D) → MS) (C f x : Str) (e : Env) (h : i < e.length) : catF i (Str.ofString "CubeError") suite C [(f, .str x)] e = endX i (suite C [(f, .str x)] (e.set i none)) := by
  unfold catF
  rw [cif_pos (isXb_top C), cif_pos ⟨rfl, h⟩]
noncomputable def tryF (i : Nat) (Y : Str) (suite : Str → List (Str × D) → MS) : SR → SR
  | .ex C fs e => catF i Y suite C fs e
  | r => r
@[simp] theorem tryF_1 (i : Nat) (Y : Str) (suite : Str → List (Str × D) → MS) (C fs e) : tryF i Y suite (.ex C fs e) = catF i Y suite C fs e := rfl
@[simp] theorem tryF_2 (i : Nat) (Y : Str) (suite : Str → List (Str × D) → MS) (e) : tryF i Y suite (.nx e) = .nx e := rfl
@[simp] theorem tryF_3 (i : Nat) (Y : Str) (suite : Str → List (Str × D) → MS) (w e) : tryF i Y suite (.rt w e) = .rt w e := rfl
@[simp] theorem tryF_4 (i : Nat) (Y : Str) (suite : Str → List (Str × D) → MS) (e) : tryF i Y suite (.bk e) = .bk e := rfl
@[simp] theorem tryF_5 (i : Nat) (Y : Str) (suite : Str → List (Str × D) → MS) (e) : tryF i Y suite (.ct e) = .ct e := rfl
@[simp] noncomputable def mTryF (i : Nat) (Y : Str) (body : MS) (suite : Str → List (Str × D) → MS) (e : Env) : SR := tryF i Y suite (body e)
end
end VL
set_option Elab.async false
set_option linter.all false
set_option maxRecDepth 100000
set_option maxHeartbeats 4000000
namespace VL
open PySem PySem.Spec PyProof.Rows L2
variable [CM]
structure HCallee (P : Program) (w : World) (K : PySem.W.Frag) (mg : Str → Option Value) (base : Heap) (T : List Addr) (x : Str) (k : Nat) (ps : List Str) (sp : VSp) (f : Addr) (fd : FuncData) : Prop where
  ok : L2H.FnH P w K mg base (L2N.CX P w) k f fd ps (spOf K T sp)
  g : mg x = some (.ref f)
  b : Binds K fd ps []
  kp : PySem.W.keepIn K (.ref f) = true
theorem fnH_mono {P : Program} {w : World} {K : PySem.W.Frag} {mg : Str → Option Value} {base : Heap} {CX : CXT} {j k : Nat} {f : Addr} {fd : FuncData} {ps : List Str} {sp : L2.Sp} (F : L2H.FnH P w K mg base CX j f fd ps sp) (h : j ≤ k) : L2H.FnH P w K mg base CX k f fd ps sp :=
  ⟨F.len, fun A outer s H args us vs Q E p hr => F.run A outer s H args us vs Q E p (hr.mono h)⟩
theorem HCallee.mono {P : Program} {w : World} {K : PySem.W.Frag} {mg : Str → Option Value} {base : Heap} {T : List Addr} {x : Str} {j k : Nat} {ps : List Str} {sp : VSp} {f : Addr} {fd : FuncData} (C : HCallee P w K mg base T x j ps sp f fd) (h : j ≤ k) : HCallee P w K mg base T x k ps sp f fd := ⟨fnH_mono C.ok h, C.g, C.b, C.kp⟩
section
variable {K : PySem.W.Frag} {c : VC} {Wx : WX} {X : Cx}
end
section
variable {P : Program} {w : World} {K : PySem.W.Frag} {mg : Str → Option Value} {base : Heap}
end
end VL
set_option Elab.async false
set_option linter.all false
set_option maxRecDepth 100000
set_option maxHeartbeats 4000000
namespace VL
open PySem PySem.Spec PyProof.Rows L2 NdefX
abbrev veL : List Value := [.type "ValueError", .type "Exception", .type "BaseException", .type "object"]
theorem refs_of : ∀ l : List Value, PySem.W.excTail veL l = true → PySem.HandSPX.refsVE l = true := by
  intro l
  induction l with
  | nil => intro h; exact h
  | cons a r ih =>
    intro h
    cases a with
    | ref c => exact ih h
    | _ => exact h
section
variable {K : PySem.W.Frag} {C : Addr}
theorem oex_of (q : PySem.W.excInitIn K C veL "ValueError.__new__" = true) (hd : PySem.W.hasDictIn K C = true) (sa : PySem.W.findIn K (.ref C) "__setattr__" = some (some (.builtin "object.__setattr__"))) (sb : PySem.W.subIn K (.ref C) (.type "BaseException") = some true)
    (ty : PySem.W.typeIn K (.ref C) = some (.type "type")) (kp : PySem.W.keepIn K (.ref C) = true) : OexC K C := by
  refine ⟨?_, sa, sb, ty, kp⟩
  unfold PySem.W.excInitIn at q
  split at q
  · rename_i dd cd sl ho
    split at q
    · rename_i C' bm k0 k1 k2 k3 n k5 hm hs
      simp only [Bool.and_eq_true, beq_iff_eq, Bool.not_eq_true'] at q
      obtain ⟨⟨⟨rfl, rfl⟩, hdel⟩, ht⟩ := q
      unfold PySem.W.hasDictIn PySem.W.clsIn at hd
      rw [ho] at hd
      obtain ⟨nm, bs, mro, ns, qn, hd', sn, sub, ab, col, del⟩ := cd
      dsimp only at hm hdel hd
      subst hm hdel
      have hsl : sl = #[k0, k1, k2, k3, some (.builtin "ValueError.__new__"), k5] := by
        obtain ⟨l⟩ := sl
        simp only at hs
        rw [hs]
      subst hsl
      have hd'' : hd' = true := by simpa using hd
      subst hd''
      exact ⟨nm, qn, ns, bs, bm, sn, sub, ab, col, dd, k0, k1, k2, k3, k5, ho, refs_of bm ht⟩
    · cases q
  · cases q
end
variable [CM]
theorem at_isx {K : PySem.W.Frag} {C : Str} {a : Addr} (e : CM.at_ C = a) (sb : PySem.W.subIn K (.ref a) (.type "BaseException") = some true)
    (h1 : PySem.W.findIn K (.ref a) "__getattribute__" = some (some (.builtin "BaseException.__getattribute__"))) (h2 : PySem.W.findIn K (.ref a) "__getattr__" = some none) (h3 : PySem.W.hasDictIn K a = true) (h4 : PySem.W.findIn K (.ref a) "__class__" = some (some (.builtin "object.__class__")))
    (h5 : PySem.W.specialIn K (.builtin "object.__class__") "__get__" = some (some (.builtin "getset_descriptor.__get__"))) (h6 : PySem.W.takesIn K (.builtin "object.__class__") = some true) (h7 : PySem.W.mroIn K a (.type "object") = some true) (hv : PySem.W.subIn K (.ref a) (.type "ValueError") = some true)
    (hcl : PySem.W.isClsIn K a = true) (n1 : PySem.W.findIn K (.ref a) "name" = some none) (n2 : PySem.W.findIn K (.ref a) "at" = some none) (n3 : PySem.W.findIn K (.ref a) "count" = some none)
    (hs : ∀ Y ∈ CM.xs, PySem.W.exmOne K (.ref a) (.ref (CM.at_ Y)) = some (isXb C Y) ∧ PySem.W.kitOne K (.ref a) (.ref (CM.at_ Y)) = some (isXb C Y)) : IsExc K C :=
  ⟨by rw [e]; exact ⟨h1, h2, sb, h3, h4, h5, h6, h7⟩, by rw [e]; exact hs, by rw [e]; exact kit_ve hv, by rw [e]; exact hcl, by rw [e]; exact fun f hf => by rcases hf with rfl | rfl | rfl <;> assumption⟩
theorem excF_mk {P : Program} {w : World} {K : PySem.W.Frag} {mg : Str → Option Value} {base : Heap} {Cn fld x msg qual : Str} {aC aI cc cda : Addr} {params : Arguments} {body : List Stmt} {scope : Scope} {dV kV doc pm ct oc : Value} {an od : Option Addr} {osl : Array (Option Value)}
    {p0 p1 p2 p3 p4 p5 p6 p7 p8 p9 : Pos} {j : Nat} {ar : Arg} {pl : Sem Bool} (e : CM.at_ Cn = aC) (g : mg Cn = some (.ref aC)) (IS : IsExc K Cn) (T : XIn P K aC aI cc cda qual fld)
    (me : PySem.W.findIn K (.ref aC) "__init__" = some (some (.ref aI))) (tI : PySem.W.typeIn K (.ref aI) = some (.type "function"))
    (lk : K.lookup aI = some ⟨oc, od, .func (PySem.W.fnX "__init__" qual params body scope [("__class__", cc)] dV kV doc pm an (.ref cda) ct), osl⟩)
    (S : NScope ["self", x, "__class__"] ["self", x] ["__class__"] scope) (hp : (params.posonlyargs ++ params.args).head? = some ar) (har : ar.arg = "self")
    (hsm : mg "super" = none) (hks : scope.names.lookup ("super" : Str) = some .globalImplicit) (hxs : (x == ("__debug__" : Str)) = false) (hxc : (x == ("__classdict__" : Str)) = false)
    (he : ∀ env : PySem.Env, eval (.Call (.Attribute (.Call (.Name "super" p0) [] [] p1) "__init__" p2) [.Constant (.str msg) j p3] [] p4) env = (do
      let ov ← attributeBase (.Call (.Name "super" p0) [] [] p1) "__init__" env (eval (.Call (.Name "super" p0) [] [] p1) env)
      standAt p2.atName
      let (f, first) ← holding [ov] (getMethod ov "__init__" pl)
      callWith p4 f first (backTo p4 (starEach [.Constant (.str msg) j p3] env)) []))
    (hbody : body = [.Expr (.Call (.Attribute (.Call (.Name "super" p0) [] [] p1) "__init__" p2) [.Constant (.str msg) j p3] [] p4) p5, .Assign [.Attribute (.Name "self" p6) fld p7] (.Name x p8) p9])
    (hb : Binds K (PySem.W.fnX "__init__" qual params body scope [("__class__", cc)] dV kV doc pm an (.ref cda) ct) ["self", x] []) : ExcF P w K mg base Cn fld :=
  ⟨by rw [e]; exact T.t, ⟨aI, _, x, by rw [e]; exact me, tI, by rw [e]; exact xinit_ok (k := 0) T lk S hp har hsm hks hxs hxc he hbody, hb⟩, by rw [e]; exact g, IS⟩
end VL
set_option Elab.async false
set_option linter.all false
set_option maxRecDepth 100000
set_option maxHeartbeats 4000000
namespace VL
open PySem PySem.Spec PyProof.Rows L2
variable [CM]
end VL
set_option Elab.async false
set_option linter.all false
set_option maxRecDepth 100000
set_option maxHeartbeats 4000000
namespace VL
open PySem PySem.Spec PyProof.Rows L2
noncomputable def F_Reader___init : FN := fnM 2 2 [0] (mSeq (mStF "Reader" "words" (mName 0) (mCall F_tokens (mCons (mName 1) mNil)))
    (mStF "Reader" "at" (mName 0) (mC (.int 0))))
noncomputable def F_Reader_seen : FN := fnM 1 1 [0] (mSeq (mIfS (mTst (mOp fLt (mFld "Reader" "at" (mName 0)) (mCB fLen (mCons (mFld "Reader" "words" (mName 0)) mNil)))) (mRet [0] (mOp fIx (mFld "Reader" "words" (mName 0)) (mFld "Reader" "at" (mName 0)))) mNext)
    (mRet [0] (mC (.str ""))))
noncomputable def F_Reader_passes : FN := fnM 2 2 [0] (mSeq (mIfS (mTst (mOp (fEq true) (mMeth F_Reader_seen "Reader" "seen" (mName 0) mNil) (mName 1))) (mRet [0] (mC (.bl false))) mNext)
    (mSeq (mStF "Reader" "at" (mName 0) (mOp fAdd (mFld "Reader" "at" (mName 0)) (mC (.int 1))))
    (mRet [0] (mC (.bl true)))))
noncomputable def F_is_number : FN := fnM 1 2 [] (mSeq (mIfS (mOrT (mTst (mOp (fEq false) (mName 0) (mC (.str "")))) (mOrT (mTst (mOp fGt (mCB fLen (mCons (mName 0) mNil)) (mC (.int 4)))) (mNotT (mTst (mAG true [] (mIt (mName 0)) (gmName 1) (mOp (fIn false) (mName 1) (mC (.str "0123456789"))) [1]))))) (mRet [] (mC (.bl false))) mNext)
    (mRet [] (mAndV (mOrV (mOp (fEq false) (mName 0) (mC (.str "0"))) (mOp (fEq true) (mOp fIx (mName 0) (mC (.int 0))) (mC (.str "0")))) (mOp fLe (mCB fInt (mCons (mName 0) mNil)) (mC (.int 1000))))))
variable [CM]
abbrev rdF (ws : List (List Nat)) (p : Nat) : List (Str × D) := [("words", .tup (ws.map dT)), ("at", .int (p : Nat))]
abbrev rdO (ws : List (List Nat)) (p : Nat) : OC := .ins "Reader" (rdF ws p)
def tokAt (ws : List (List Nat)) (p : Nat) : List Nat := ws.getD p []
theorem tok_of {ws rest : List (List Nat)} {p : Nat} {w : List Nat} (h : ws.drop p = w :: rest) : tokAt ws p = w ∧ p < ws.length ∧ ws.drop (p + 1) = rest := by
  obtain ⟨h1, h2, h3⟩ : p < ws.length ∧ ws[p]? = some w ∧ ws.drop (p + 1) = rest := by
    have h1 : p < ws.length := by
      apply Classical.byContradiction
      intro hn
      rw [List.drop_eq_nil_of_le (by omega)] at h
      cases h
    rw [List.drop_eq_getElem_cons h1] at h
    injection h with h2 h3
    exact ⟨h1, by rw [List.getElem?_eq_getElem h1, h2], h3⟩
  exact ⟨by unfold tokAt; rw [List.getD_eq_getElem?_getD, h2]; rfl, h1, h3⟩
theorem tok_end {ws : List (List Nat)} {p : Nat} (h : ws.drop p = []) : tokAt ws p = [] := by
  have := List.drop_eq_nil_iff.mp h
  unfold tokAt
  rw [List.getD_eq_getElem?_getD, List.getElem?_eq_none (by omega)]; rfl
theorem nil_tx0 : Str.ofString "" = tx [] := by decide +kernel
theorem seen_eq {ws : List (List Nat)} (hz : ws.length ≤ 16777216) (p : Nat) : F_Reader_seen [.own (rdO ws p)] = .ok (.val (dT (tokAt ws p))) [.own (rdO ws p)] := by
  by_cases h : p < ws.length
  · have h1 : (p : Int) < (ws.length : Nat) := by omega
    have ha : atI (ws.map dT) (p : Int) = some (dT (tokAt ws p)) := atI_nat (by rw [List.getElem?_map, List.getElem?_eq_getElem h]; unfold tokAt; rw [List.getD_eq_getElem?_getD, List.getElem?_eq_getElem h]; rfl)
    simp -implicitDefEqProofs [F_Reader_seen, h1, ha, hz]
  · have h1 : ¬ ((p : Int) < (ws.length : Nat)) := by omega
    have ht : tokAt ws p = [] := tok_end (List.drop_eq_nil_of_le (by omega))
    rw [ht]
    simp -implicitDefEqProofs [F_Reader_seen, h1, hz, nil_tx0]
theorem passes_yes {ws : List (List Nat)} (hz : ws.length ≤ 16777216) {p : Nat} {w : List Nat} (h : tokAt ws p = w) : F_Reader_passes [.own (rdO ws p), .val (dT w)] = .ok (.val (.bl true)) [.own (rdO ws (p + 1)), .val (dT w)] := by
  have hs := seen_eq hz p
  rw [h] at hs
  simp -implicitDefEqProofs [F_Reader_passes, hs]
theorem passes_no {ws : List (List Nat)} (hz : ws.length ≤ 16777216) {p : Nat} {w : List Nat} (h : tokAt ws p ≠ w) : F_Reader_passes [.own (rdO ws p), .val (dT w)] = .ok (.val (.bl false)) [.own (rdO ws p), .val (dT w)] := by
  have hs := seen_eq hz p
  simp -implicitDefEqProofs [F_Reader_passes, hs, h]
theorem word_facts {w : List Nat} (h : isWord w = true) : w ≠ [] ∧ w.length ≤ 8 ∧ (∀ c ∈ w, c ∈ lettersL) ∧ w ≠ wSum ∧ w ≠ wWhere ∧ w ≠ wIn ∧ w ≠ wAnd := by
  unfold isWord at h
  simp only [Bool.and_eq_true, decide_eq_true_eq, Bool.not_eq_true', Bool.or_eq_false_iff, decide_eq_false_iff_not, List.all_eq_true] at h
  obtain ⟨⟨⟨h1, h2⟩, ⟨⟨h3, h4⟩, h5⟩, h6⟩, h7⟩ := h
  exact ⟨fun e => by rw [e] at h1; simp at h1, h2, h7, h3, h4, h5, h6⟩
def pathK : List (List Nat) → List (List Nat)
  | [] => []
  | w :: r => w :: r.flatMap fun x => [[47], x]
theorem pathT_cons (w : List Nat) : ∀ r : List (List Nat), pathT (w :: r) = w ++ r.flatMap fun x => 47 :: x
  | [] => by simp [pathT, TL.joinL]
  | x :: r => by
    have ih := pathT_cons x r
    have e : pathT (w :: x :: r) = w ++ [47] ++ pathT (x :: r) := by simp [pathT, TL.joinL]
    rw [e, ih]; simp
structure CondOk (c : List Nat × List (List Nat)) : Prop where
  n : isWord c.1 = true
  ne : c.2 ≠ []
  w : ∀ x ∈ c.2, isWord x = true
  l : c.2.length ≤ 10
end VL
set_option Elab.async false
set_option linter.all false
set_option maxRecDepth 100000
set_option maxHeartbeats 4000000
namespace VL
open PySem PySem.Spec PyProof.Rows L2
variable [CM]
theorem num_of : ∀ (m : Nat) (f : List Nat), f.length = m → f ≠ [] → (∀ n ∈ f, 48 ≤ n ∧ n ≤ 57) → (f.head? = some 48 → f = [48]) → ∃ n, f = TL.numL n ∧ (f.head? ≠ some 48 → 0 < n) := by
  intro m
  induction m with
  | zero => intro f h h0; exact absurd (List.length_eq_zero_iff.mp h) h0
  | succ m ih =>
    intro f hl h0 hd hz
    rcases List.eq_nil_or_concat f with rfl | ⟨g, d, rfl⟩
    · exact absurd rfl h0
    rw [List.concat_eq_append] at *
    have hdd := hd d (by simp)
    by_cases hg : g = []
    · subst hg
      refine ⟨d - 48, ?_, fun hne => ?_⟩
      · rw [TL.numL_lt (by omega)]
        simp; omega
      · have : d ≠ 48 := fun e => hne (by simp [e])
        omega
    · have hgl : g.length = m := by simpa using hl
      have hhd : (g ++ [d]).head? = g.head? := by
        cases g with
        | nil => exact absurd rfl hg
        | cons a r => rfl
      have hh : g.head? ≠ some 48 := by
        intro e
        have := hz (by rw [hhd]; exact e)
        have h2 := congrArg List.length this
        simp at h2
        exact hg h2
      obtain ⟨n, hn, hp⟩ := ih g hgl hg (fun x hx => hd x (by simp [hx])) (fun e => absurd e hh)
      have hpn := hp hh
      refine ⟨n * 10 + (d - 48), ?_, fun _ => by omega⟩
      have h1 : (n * 10 + (d - 48)) / 10 = n := by omega
      have h2 : (n * 10 + (d - 48)) % 10 = d - 48 := by omega
      rw [TL.numL_step (by omega), h1, h2, ← hn]
      have : 48 + (d - 48) = d := by omega
      rw [this]
theorem numL_bound {n k : Nat} (h : (TL.numL n).length ≤ k) : n < 10 ^ k := by
  induction k generalizing n with
  | zero => exact absurd (List.length_eq_zero_iff.mp (Nat.le_zero.mp h)) (TL.numL_ne n)
  | succ k ih =>
    by_cases hn : n < 10
    · have : 10 ^ 1 ≤ 10 ^ (k + 1) := Nat.pow_le_pow_right (by decide) (by omega)
      omega
    · rw [TL.numL_step (by omega)] at h
      have := ih (n := n / 10) (by simpa using h)
      have e : 10 ^ (k + 1) = 10 ^ k * 10 := Nat.pow_succ ..
      omega
end VL
set_option Elab.async false
set_option linter.all false
set_option maxRecDepth 100000
set_option maxHeartbeats 4000000
namespace VL
open PySem PySem.Spec PyProof.Rows L2
noncomputable def F_Reader_refuse_2 : FN := fnM 1 1 [0] (mRaise1 "FaultyText" "at" (mOp fAdd (mFld "Reader" "at" (mName 0)) (mC (.int 1))))
noncomputable def F_Reader_name_2 : FN := fnM 1 2 [0] (mSeq (mSet 1 (mMeth F_Reader_seen "Reader" "seen" (mName 0) mNil))
    (mSeq (mIfS (mOrT (mTst (mOp (fEq false) (mName 1) (mC (.str "")))) (mOrT (mTst (mOp (fIn true) (mOp fIx (mName 1) (mC (.int 0))) (mC (.str "abcdefghijklmnopqrstuvwxyz")))) (mOrT (mTst (mOp (fIn false) (mName 1) (mC (.tup [(.str "sum"), (.str "where"), (.str "in"), (.str "and")])))) (mTst (mOp fGt (mCB fLen (mCons (mName 1) mNil)) (mC (.int 8))))))) (mExpr (mMeth F_Reader_refuse_2 "Reader" "refuse" (mName 0) mNil)) mNext)
    (mSeq (mStF "Reader" "at" (mName 0) (mOp fAdd (mFld "Reader" "at" (mName 0)) (mC (.int 1))))
    (mRet [0] (mName 1)))))
noncomputable def B_Reader_path_2_1 : MS := (mSet 1 (mOp fAdd (mOp fAdd (mName 1) (mC (.str "/"))) (mMeth F_Reader_name_2 "Reader" "name" (mName 0) mNil)))
noncomputable def F_Reader_path_2 : FN := fnM 1 2 [0] (mSeq (mSet 1 (mMeth F_Reader_name_2 "Reader" "name" (mName 0) mNil))
    (mSeq (mWhile (mTst (mMeth F_Reader_passes "Reader" "passes" (mName 0) (mCons (mC (.str "/")) mNil))) B_Reader_path_2_1)
    (mRet [0] (mName 1))))
noncomputable def B_Reader_condition_2_1 : MS := (mExpr (mApp (mName 2) (mMeth F_Reader_path_2 "Reader" "path" (mName 0) mNil)))
noncomputable def F_Reader_condition_2 : FN := fnM 1 3 [0] (mSeq (mSet 1 (mMeth F_Reader_name_2 "Reader" "name" (mName 0) mNil))
    (mSeq (mIfS (mNotT (mTst (mMeth F_Reader_passes "Reader" "passes" (mName 0) (mCons (mC (.str "in")) mNil)))) (mExpr (mMeth F_Reader_refuse_2 "Reader" "refuse" (mName 0) mNil)) mNext)
    (mSeq (mOwn 2 (mLst (mCons (mMeth F_Reader_path_2 "Reader" "path" (mName 0) mNil) mNil)))
    (mSeq (mWhile (mTst (mMeth F_Reader_passes "Reader" "passes" (mName 0) (mCons (mC (.str ",")) mNil))) B_Reader_condition_2_1)
    (mRet [0] (mTup (mCons (mName 1) (mCons (mCB fTuple (mCons (mName 2) mNil)) mNil))))))))
noncomputable def F_Reader_factor_2 (R : FN) : FN := fnM 2 4 [0] (mSeq (mKill [2] (mIfS (mAndT (mTst (mOp (fEq false) (mMeth F_Reader_seen "Reader" "seen" (mName 0) mNil) (mC (.str "(")))) (mTst (mOp fLt (mName 1) (mC (.int 10))))) (mSeq (mStF "Reader" "at" (mName 0) (mOp fAdd (mFld "Reader" "at" (mName 0)) (mC (.int 1))))
    (mSeq (mSet 2 (mMeth R "Reader" "expression" (mName 0) (mCons (mOp fAdd (mName 1) (mC (.int 1))) mNil)))
    (mSeq (mIfS (mNotT (mTst (mMeth F_Reader_passes "Reader" "passes" (mName 0) (mCons (mC (.str ")")) mNil)))) (mExpr (mMeth F_Reader_refuse_2 "Reader" "refuse" (mName 0) mNil)) mNext)
    (mRet [0] (mName 2))))) mNext))
    (mSeq (mIfS (mNotT (mTst (mMeth F_Reader_passes "Reader" "passes" (mName 0) (mCons (mC (.str "sum")) mNil)))) (mExpr (mMeth F_Reader_refuse_2 "Reader" "refuse" (mName 0) mNil)) mNext)
    (mSeq (mOwn 3 (mLst mNil))
    (mSeq (mIfS (mTst (mMeth F_Reader_passes "Reader" "passes" (mName 0) (mCons (mC (.str "where")) mNil))) (mSeq (mExpr (mApp (mName 3) (mMeth F_Reader_condition_2 "Reader" "condition" (mName 0) mNil)))
    (mWhile (mTst (mMeth F_Reader_passes "Reader" "passes" (mName 0) (mCons (mC (.str "and")) mNil))) (mExpr (mApp (mName 3) (mMeth F_Reader_condition_2 "Reader" "condition" (mName 0) mNil))))) mNext)
    (mRet [0] (mTup (mCons (mC (.str "sum")) (mCons (mCB fTuple (mCons (mName 3) mNil)) mNil))))))))
noncomputable def F_Reader_term_2 (R : FN) : FN := fnM 2 3 [0] (mSeq (mIfS (mNotT (mTst (mCall F_is_number (mCons (mMeth F_Reader_seen "Reader" "seen" (mName 0) mNil) mNil)))) (mRet [0] (mMeth (F_Reader_factor_2 R) "Reader" "factor" (mName 0) (mCons (mName 1) mNil))) mNext)
    (mSeq (mSet 2 (mCB fInt (mCons (mMeth F_Reader_seen "Reader" "seen" (mName 0) mNil) mNil)))
    (mSeq (mStF "Reader" "at" (mName 0) (mOp fAdd (mFld "Reader" "at" (mName 0)) (mC (.int 1))))
    (mSeq (mIfS (mNotT (mTst (mMeth F_Reader_passes "Reader" "passes" (mName 0) (mCons (mC (.str "*")) mNil)))) (mExpr (mMeth F_Reader_refuse_2 "Reader" "refuse" (mName 0) mNil)) mNext)
    (mRet [0] (mTup (mCons (mC (.str "times")) (mCons (mName 2) (mCons (mMeth (F_Reader_factor_2 R) "Reader" "factor" (mName 0) (mCons (mName 1) mNil)) mNil)))))))))
noncomputable def F_Reader_expression_2_b (R : FN) : FN := fnM 2 4 [0] (mSeq (mIfS (mTst (mMeth F_Reader_passes "Reader" "passes" (mName 0) (mCons (mC (.str "-")) mNil))) (mSet 2 (mTup (mCons (mC (.str "minus")) (mCons (mMeth (F_Reader_term_2 R) "Reader" "term" (mName 0) (mCons (mName 1) mNil)) mNil)))) (mSet 2 (mMeth (F_Reader_term_2 R) "Reader" "term" (mName 0) (mCons (mName 1) mNil))))
    (mSeq (mWhile (mOrT (mTst (mOp (fEq false) (mMeth F_Reader_seen "Reader" "seen" (mName 0) mNil) (mC (.str "+")))) (mTst (mOp (fEq false) (mMeth F_Reader_seen "Reader" "seen" (mName 0) mNil) (mC (.str "-"))))) (mKill [3] (mSeq (mSet 3 (mMeth F_Reader_seen "Reader" "seen" (mName 0) mNil))
    (mSeq (mStF "Reader" "at" (mName 0) (mOp fAdd (mFld "Reader" "at" (mName 0)) (mC (.int 1))))
    (mSet 2 (mTup (mCons (mIf (mTst (mOp (fEq false) (mName 3) (mC (.str "+")))) (mC (.str "plus")) (mC (.str "less"))) (mCons (mName 2) (mCons (mMeth (F_Reader_term_2 R) "Reader" "term" (mName 0) (mCons (mName 1) mNil)) mNil)))))))))
    (mRet [0] (mName 2))))
noncomputable def F_Reader_expression_2 : Nat → FN
  | 0 => fun _ => .no
  | n + 1 => F_Reader_expression_2_b (F_Reader_expression_2 n)
noncomputable def F_read_expression_2 : FN := fnM 1 3 [] (mSeq (mOwn 1 (mMake F_Reader___init "Reader" (mCons (mName 0) mNil)))
    (mSeq (mSet 2 (mMeth (F_Reader_expression_2 12) "Reader" "expression" (mName 1) (mCons (mC (.int 0)) mNil)))
    (mSeq (mIfS (mTst (mOp (fEq true) (mMeth F_Reader_seen "Reader" "seen" (mName 1) mNil) (mC (.str "")))) (mExpr (mMeth F_Reader_refuse_2 "Reader" "refuse" (mName 1) mNil)) mNext)
    (mRet [] (mName 2)))))
variable [CM]
theorem while_ex {t : MT} {b : MS} {e e1 e2 : Env} {C : Str} {fs : List (Str × D)} (h1 : t e = .ok true e1) (h2 : b e1 = .ex C fs e2) : mWhile t b e = .ex C fs e2 := by
  refine while_of (n := 1) ?_ (by simp)
  show whK _ b (t e) = _
  rw [h1]
  show trn _ (b e1) = _
  rw [h2]
  rfl
abbrev Tok := List Nat
def nmOk (w : Tok) : Bool := !decide (w = []) && (decide (w.headD 0 ∈ lettersL) && (!(decide (w = wSum) || (decide (w = wWhere) || (decide (w = wIn) || decide (w = wAnd)))) && decide (w.length ≤ 8)))
def numV (w : Tok) : Nat := w.foldl (fun a d => a * 10 + (d - 48)) 0
def nbOk (w : Tok) : Bool := !decide (w = []) && (decide (w.length ≤ 4) && ((w.all fun n => decide (n ∈ dgtL)) && ((decide (w = [48]) || !decide (w.headD 0 = 48)) && decide (numV w ≤ 1000))))
structure At (ws l : List Tok) (q : Nat) : Prop where
  d : ws.drop q = l
  n : q + l.length = ws.length
theorem At.tok {ws r : List Tok} {w : Tok} {q : Nat} (h : At ws (w :: r) q) : tokAt ws q = w ∧ At ws r (q + 1) := by
  obtain ⟨h1, h2, h3⟩ := tok_of h.d
  have := h.n
  rw [List.length_cons] at this
  exact ⟨h1, h3, by omega⟩
theorem At.end_ {ws : List Tok} {q : Nat} (h : At ws [] q) : tokAt ws q = [] := tok_end h.d
theorem At.head {ws l : List Tok} {q : Nat} (h : At ws l q) : tokAt ws q = l.headD [] := by
  cases l with
  | nil => exact h.end_
  | cons w r => exact h.tok.1
theorem At.mem {ws l : List Tok} {q : Nat} (h : At ws l q) : ∀ w ∈ l, w ∈ ws := fun w hw => by
  rw [← h.d] at hw
  exact List.mem_of_mem_drop hw
structure Toks (ws : List Tok) : Prop where
  n : ws.length ≤ 100000
  w : ∀ w ∈ ws, w.length ≤ 100000
theorem Toks.z {ws : List Tok} (h : Toks ws) : ws.length ≤ 16777216 := by have := h.n; omega
def Res {α : Type} (ws : List Tok) (p : Nat) (d : α → W) (tl : List M) (x : R (List M) W) : Except (List Tok) (α × List Tok) → Prop
  | .ok (a, l) => ∃ q, p ≤ q ∧ At ws l q ∧ x = .ok (d a) (.own (rdO ws q) :: tl)
  | .error l => ∃ q, p ≤ q ∧ At ws l q ∧ x = .ex "FaultyText" [("at", .int ((q : Int) + 1))] (.own (rdO ws q) :: tl)
theorem refuse_eq (ws : List Tok) (q : Nat) : F_Reader_refuse_2 [.own (rdO ws q)] = .ex "FaultyText" [("at", .int ((q : Int) + 1))] [.own (rdO ws q)] := by
  simp -implicitDefEqProofs [F_Reader_refuse_2]
def pName : List Tok → Except (List Tok) (Tok × List Tok)
  | [] => .error []
  | w :: r => if nmOk w = true then .ok (w, r) else .error (w :: r)
theorem name_res {ws : List Tok} (hz : Toks ws) {l : List Tok} {p : Nat} (ha : At ws l p) : Res ws p (fun w => .val (dT w)) [] (F_Reader_name_2 [.own (rdO ws p)]) (pName l) := by
  have hs := seen_eq hz.z p
  have hrf := refuse_eq ws p
  cases l with
  | nil =>
    rw [ha.end_] at hs
    refine ⟨p, Nat.le_refl _, ha, ?_⟩
    simp -implicitDefEqProofs [F_Reader_name_2, hs, nil_tx0, hrf]
  | cons w r =>
    rw [ha.tok.1] at hs
    have hlw : w.length ≤ 16777216 := by have := hz.w w (ha.mem w (List.mem_cons_self ..)); omega
    have e : inSeq (dT w) [D.str "sum", D.str "where", D.str "in", D.str "and"] = some (decide (w = wSum) || (decide (w = wWhere) || (decide (w = wIn) || decide (w = wAnd)))) := by
      rw [sum_tx, where_tx, in_tx, and_tx]
      simp [tx_beq, eq_comm]
    cases hc : nmOk w with
    | true =>
      have hp : pName (w :: r) = .ok (w, r) := by show (if nmOk w = true then _ else _) = _; rw [hc]; rfl
      rw [hp]
      refine ⟨p + 1, Nat.le_succ _, ha.tok.2, ?_⟩
      unfold nmOk at hc
      simp only [Bool.and_eq_true, Bool.not_eq_true', decide_eq_false_iff_not, decide_eq_true_eq] at hc
      obtain ⟨h1, h2, h3, h4⟩ := hc
      rw [h3] at e
      cases w with
      | nil => exact absurd rfl h1
      | cons c u =>
        have hh := hasS_tx lettersL c
        rw [decide_eq_true (show c ∈ lettersL from h2)] at hh
        have hz3 : ¬ ((8 : Int) < ((c :: u).length : Nat)) := by omega
        generalize hgl : (c :: u).length = L at hlw hz3
        have ha0 : atI (c :: u) 0 = some c := atI_c0
        have hlen : (tx (c :: u)).length = L := by rw [tx_len, hgl]
        simp -implicitDefEqProofs [F_Reader_name_2, hs, nil_tx0, hgl, hlw, hz3, ha0, letters_tx, hh, e, -tx_len, hlen]
    | false =>
      have hp : pName (w :: r) = .error (w :: r) := by show (if nmOk w = true then _ else _) = _; rw [hc]; rfl
      rw [hp]
      refine ⟨p, Nat.le_refl _, ha, ?_⟩
      cases w with
      | nil => simp -implicitDefEqProofs [F_Reader_name_2, hs, nil_tx0, hrf]
      | cons c u =>
        have hne : ¬ ((c :: u : List Nat) = []) := by simp
        have hh := hasS_tx lettersL c
        unfold nmOk at hc
        simp only [hne, decide_false, Bool.not_false, Bool.true_and] at hc
        generalize hgl : (c :: u).length = L at hlw hc
        have ha0 : atI (c :: u) 0 = some c := atI_c0
        have hlen : (tx (c :: u)).length = L := by rw [tx_len, hgl]
        have hc : (decide (c ∈ lettersL) && (!(decide ((c :: u) = wSum) || (decide ((c :: u) = wWhere) || (decide ((c :: u) = wIn) || decide ((c :: u) = wAnd)))) && decide (L ≤ 8))) = false := hc
        cases h2 : decide (c ∈ lettersL) with
        | false =>
          rw [h2] at hh
          simp -implicitDefEqProofs [F_Reader_name_2, hs, nil_tx0, hgl, hlw, ha0, letters_tx, hh, e, -tx_len, hlen, hrf]
        | true =>
          rw [h2] at hh hc
          rw [Bool.true_and] at hc
          cases h3 : (decide ((c :: u) = wSum) || (decide ((c :: u) = wWhere) || (decide ((c :: u) = wIn) || decide ((c :: u) = wAnd)))) with
          | true =>
            rw [h3] at e
            simp -implicitDefEqProofs [F_Reader_name_2, hs, nil_tx0, hgl, hlw, ha0, letters_tx, hh, e, -tx_len, hlen, hrf]
          | false =>
            rw [h3] at e hc
            have hz3 : (8 : Int) < (L : Nat) := by
              have : ¬ (L ≤ 8) := by simpa using hc
              omega
            simp -implicitDefEqProofs [F_Reader_name_2, hs, nil_tx0, hgl, hlw, hz3, ha0, letters_tx, hh, e, -tx_len, hlen, hrf]
def pathL : List Tok → Tok → Except (List Tok) (Tok × List Tok)
  | [], f => .ok (f, [])
  | s :: t, f => if s = [47] then (match t with
      | [] => .error []
      | w :: r => if nmOk w = true then pathL r (f ++ 47 :: w) else .error (w :: r)) else .ok (f, s :: t)
theorem nmOk_len {w : Tok} (h : nmOk w = true) : w.length ≤ 8 := by
  unfold nmOk at h
  simp only [Bool.and_eq_true, decide_eq_true_eq] at h
  exact h.2.2.2
def ResL {α : Type} (ws : List Tok) (p : Nat) (pre suf : List (Option M)) (d : α → Option M) (x : SR) : Except (List Tok) (α × List Tok) → Prop
  | .ok (a, l) => ∃ q, p ≤ q ∧ At ws l q ∧ x = .nx (some (.own (rdO ws q)) :: (pre ++ d a :: suf))
  | .error l => ∃ q a, p ≤ q ∧ At ws l q ∧ x = .ex "FaultyText" [("at", .int ((q : Int) + 1))] (some (.own (rdO ws q)) :: (pre ++ d a :: suf))
theorem ResL.mono {α : Type} {ws : List Tok} {p p' : Nat} {pre suf : List (Option M)} {d : α → Option M} {x : SR} {e : Except (List Tok) (α × List Tok)} (h : ResL ws p pre suf d x e) (hp : p' ≤ p) : ResL ws p' pre suf d x e := by
  cases e with
  | ok al =>
    obtain ⟨a, l⟩ := al
    obtain ⟨q, h1, h2⟩ := h
    exact ⟨q, by omega, h2⟩
  | error l =>
    obtain ⟨q, a, h1, h2⟩ := h
    exact ⟨q, a, by omega, h2⟩
theorem ResL.no {α : Type} {ws : List Tok} {p : Nat} {pre suf : List (Option M)} {d : α → Option M} {x : SR} {e : Except (List Tok) (α × List Tok)} (h : ResL ws p pre suf d x e) : x ≠ .no := by
  cases e with
  | ok al =>
    obtain ⟨a, l⟩ := al
    obtain ⟨q, _, _, rfl⟩ := h
    simp
  | error l =>
    obtain ⟨q, a, _, _, rfl⟩ := h
    simp
theorem pathL_res {ws : List Tok} (hz : Toks ws) : ∀ (n : Nat) (l : List Tok) (f : Tok) (p : Nat), l.length ≤ n → At ws l p → f.length + 9 * l.length ≤ 1000000 →
    ResL ws p [] [] (fun g => some (.val (dT g))) (mWhile (mTst (mMeth F_Reader_passes "Reader" "passes" (mName 0) (mCons (mC (.str "/")) mNil))) B_Reader_path_2_1 [some (.own (rdO ws p)), some (.val (dT f))]) (pathL l f)
  | n, [], f, p, _, ha, _ => by
    have hsl : Str.ofString "/" = tx [47] := by decide +kernel
    have hp := passes_no hz.z (p := p) (w := [47]) (by rw [ha.end_]; simp)
    refine ⟨p, Nat.le_refl _, ha, (while_end (e1 := [some (.own (rdO ws p)), some (.val (dT f))]) ?_).trans rfl⟩
    simp -implicitDefEqProofs [hsl, hp]
  | 0, s :: t, f, p, h, _, _ => by simp at h
  | n + 1, s :: t, f, p, hn, ha, hf => by
    have hsl : Str.ofString "/" = tx [47] := by decide +kernel
    obtain ⟨h1, h2⟩ := ha.tok
    rw [List.length_cons] at hn hf
    by_cases hs : s = [47]
    · have hp := passes_yes hz.z (p := p) (w := [47]) (by rw [h1, hs])
      have hnm := name_res hz h2
      have hrf := refuse_eq ws (p + 1)
      have hz1 : f.length + 1 ≤ 16777216 := by omega
      have ht : mTst (mMeth F_Reader_passes "Reader" "passes" (mName 0) (mCons (mC (.str "/")) mNil)) [some (.own (rdO ws p)), some (.val (dT f))] = .ok true [some (.own (rdO ws (p + 1))), some (.val (dT f))] := by
        simp -implicitDefEqProofs [hsl, hp]
      cases t with
      | nil =>
        rw [pathL, if_pos hs]
        obtain ⟨q, hq1, hq2, hq3⟩ := hnm
        refine ⟨q, f, by omega, hq2, while_ex ht ?_⟩
        simp -implicitDefEqProofs [B_Reader_path_2_1, hsl, hz1, hq3]
      | cons w r =>
        rw [pathL, if_pos hs]
        by_cases hw : nmOk w = true
        · have hwl := nmOk_len hw
          simp only [hw, if_true]
          have e1 : pName (w :: r) = .ok (w, r) := by show (if nmOk w = true then _ else _) = _; rw [if_pos hw]
          rw [e1] at hnm
          obtain ⟨q, hq1, hq2, hq3⟩ := hnm
          rw [List.length_cons] at hn hf
          have ih := pathL_res hz n r (f ++ 47 :: w) q (by omega) hq2 (by simp; omega)
          have hz2 : f.length + (1 + w.length) ≤ 16777216 := by omega
          have hz3 : f.length + 1 + w.length ≤ 16777216 := by omega
          have ih2 := ih.mono (p' := p) (by omega)
          rw [while_step (e1 := [some (.own (rdO ws (p + 1))), some (.val (dT f))]) (e2 := [some (.own (rdO ws q)), some (.val (dT (f ++ 47 :: w)))]) ht ?_ ih.no]
          · exact ih2
          · simp -implicitDefEqProofs [B_Reader_path_2_1, hsl, hz1, hz2, hz3, hq3]
        · simp only [hw, if_false]
          have e1 : pName (w :: r) = .error (w :: r) := by show (if nmOk w = true then _ else _) = _; rw [if_neg hw]
          rw [e1] at hnm
          obtain ⟨q, hq1, hq2, hq3⟩ := hnm
          refine ⟨q, f, by omega, hq2, while_ex ht ?_⟩
          simp -implicitDefEqProofs [B_Reader_path_2_1, hsl, hz1, hq3]
    · have e0 : pathL (s :: t) f = .ok (f, s :: t) := by
        cases t with
        | nil => rw [pathL, if_neg hs]
        | cons w r => rw [pathL, if_neg hs]
      rw [e0]
      have hp := passes_no hz.z (p := p) (w := [47]) (by rw [h1]; exact hs)
      refine ⟨p, Nat.le_refl _, ha, (while_end (e1 := [some (.own (rdO ws p)), some (.val (dT f))]) ?_).trans rfl⟩
      simp -implicitDefEqProofs [hsl, hp]
def pPath (l : List Tok) : Except (List Tok) (Tok × List Tok) := match pName l with
  | .ok (w, r) => pathL r w
  | .error e => .error e
theorem At.le {ws l : List Tok} {p : Nat} (h : At ws l p) : l.length ≤ ws.length := by have := h.n; omega
theorem pName_ok {l : List Tok} {w : Tok} {r : List Tok} (h : pName l = .ok (w, r)) : l = w :: r ∧ nmOk w = true := by
  cases l with
  | nil => cases h
  | cons a t =>
    by_cases hw : nmOk a = true
    · have e : pName (a :: t) = .ok (a, t) := by show (if nmOk a = true then _ else _) = _; rw [if_pos hw]
      rw [e] at h; cases h; exact ⟨rfl, hw⟩
    · have e : pName (a :: t) = .error (a :: t) := by show (if nmOk a = true then _ else _) = _; rw [if_neg hw]
      rw [e] at h; cases h
theorem path_res {ws : List Tok} (hz : Toks ws) {l : List Tok} {p : Nat} (ha : At ws l p) : Res ws p (fun w => .val (dT w)) [] (F_Reader_path_2 [.own (rdO ws p)]) (pPath l) := by
  have h1 := name_res hz ha
  unfold pPath
  cases hn : pName l with
  | error e =>
    rw [hn] at h1
    obtain ⟨q, hq1, hq2, hq3⟩ := h1
    exact ⟨q, hq1, hq2, by simp -implicitDefEqProofs [F_Reader_path_2, hq3]⟩
  | ok wr =>
    obtain ⟨w, r⟩ := wr
    rw [hn] at h1
    obtain ⟨q, hq1, hq2, hq3⟩ := h1
    obtain ⟨_, hw⟩ := pName_ok hn
    have hwl := nmOk_len hw
    have hrl := hq2.le
    have hzn := hz.n
    have h2 := pathL_res hz r.length r w q (Nat.le_refl _) hq2 (by omega)
    show Res ws p _ [] _ (pathL r w)
    cases hp : pathL r w with
    | error e =>
      rw [hp] at h2
      obtain ⟨q2, a, g1, g2, g3⟩ := h2
      refine ⟨q2, by omega, g2, ?_⟩
      simp -implicitDefEqProofs [F_Reader_path_2, hq3]
      rw [g3]
      simp
    | ok fr =>
      obtain ⟨f, r2⟩ := fr
      rw [hp] at h2
      obtain ⟨q2, g1, g2, g3⟩ := h2
      refine ⟨q2, by omega, g2, ?_⟩
      simp -implicitDefEqProofs [F_Reader_path_2, hq3]
      rw [g3]
      simp
def pathsL : Nat → List Tok → List Tok → Except (List Tok) (List Tok × List Tok)
  | 0, l, a => .ok (a, l)
  | n + 1, l, a => if l.headD [] = [44] then (match pPath l.tail with
      | .ok (w, r) => pathsL n r (a ++ [w])
      | .error e => .error e) else .ok (a, l)
theorem At.tail {ws l : List Tok} {q : Nat} (h : At ws l q) (hne : l.headD [] ≠ []) : At ws l.tail (q + 1) ∧ l.tail.length + 1 = l.length := by
  cases l with
  | nil => simp at hne
  | cons w r => exact ⟨h.tok.2, by simp⟩
theorem At.sub {ws l l' : List Tok} {p q : Nat} (h : At ws l p) (h' : At ws l' q) (hp : p ≤ q) : l'.length ≤ l.length := by
  have := h.n; have := h'.n; omega
theorem pathsL_res {ws : List Tok} (hz : Toks ws) (nm : Option M) : ∀ (n : Nat) (l : List Tok) (a : List Tok) (p : Nat), l.length ≤ n → At ws l p → a.length + l.length ≤ 1000000 →
    ResL ws p [nm] [] (fun g => some (.own (.lst (g.map dT)))) (mWhile (mTst (mMeth F_Reader_passes "Reader" "passes" (mName 0) (mCons (mC (.str ",")) mNil))) B_Reader_condition_2_1 [some (.own (rdO ws p)), nm, some (.own (.lst (a.map dT)))]) (pathsL n l a)
  | n, l, a, p, hn, ha, hf => by
    have hsl : Str.ofString "," = tx [44] := by decide +kernel
    by_cases hs : l.headD [] = [44]
    · have hp := passes_yes hz.z (p := p) (w := [44]) (by rw [ha.head, hs])
      have ht : mTst (mMeth F_Reader_passes "Reader" "passes" (mName 0) (mCons (mC (.str ",")) mNil)) [some (.own (rdO ws p)), nm, some (.own (.lst (a.map dT)))] = .ok true [some (.own (rdO ws (p + 1))), nm, some (.own (.lst (a.map dT)))] := by
        simp -implicitDefEqProofs [hsl, hp]
      obtain ⟨h2, h3⟩ := ha.tail (by rw [hs]; simp)
      cases n with
      | zero => omega
      | succ n =>
        rw [pathsL, if_pos hs]
        have hpt := path_res hz h2
        cases hc : pPath l.tail with
        | error e =>
          rw [hc] at hpt
          obtain ⟨q, hq1, hq2, hq3⟩ := hpt
          refine ⟨q, a, by omega, hq2, while_ex ht ?_⟩
          simp -implicitDefEqProofs [B_Reader_condition_2_1, hq3]
        | ok wr =>
          obtain ⟨w, r⟩ := wr
          rw [hc] at hpt
          obtain ⟨q, hq1, hq2, hq3⟩ := hpt
          have hrl := h2.sub hq2 hq1
          have hal : a.length < 16777216 := by omega
          have ih := (pathsL_res hz nm n r (a ++ [w]) q (by omega) hq2 (by simp; omega)).mono (p' := p) (by omega)
          show ResL ws p _ _ _ _ (pathsL n r (a ++ [w]))
          rw [while_step (e1 := [some (.own (rdO ws (p + 1))), nm, some (.own (.lst (a.map dT)))]) (e2 := [some (.own (rdO ws q)), nm, some (.own (.lst ((a ++ [w]).map dT)))]) ht ?_ ih.no]
          · exact ih
          · simp -implicitDefEqProofs [B_Reader_condition_2_1, hq3, hal]
    · have e0 : pathsL n l a = .ok (a, l) := by
        cases n with
        | zero => rw [pathsL]
        | succ n => rw [pathsL, if_neg hs]
      rw [e0]
      have hp := passes_no hz.z (p := p) (w := [44]) (by rw [ha.head]; exact hs)
      refine ⟨p, Nat.le_refl _, ha, (while_end (e1 := [some (.own (rdO ws p)), nm, some (.own (.lst (a.map dT)))]) ?_).trans rfl⟩
      simp -implicitDefEqProofs [hsl, hp]
abbrev Cnd := Tok × List Tok
abbrev cndD (c : Cnd) : D := .tup [dT c.1, .tup (c.2.map dT)]
def pCond (l : List Tok) : Except (List Tok) (Cnd × List Tok) := match pName l with
  | .error e => .error e
  | .ok (nm, l1) => if l1.headD [] = wIn then (match pPath l1.tail with
      | .error e => .error e
      | .ok (w, r) => match pathsL r.length r [w] with
        | .error e => .error e
        | .ok (ps, r') => .ok ((nm, ps), r')) else .error l1
theorem ResL.ok_ {α : Type} {ws : List Tok} {p : Nat} {pre suf : List (Option M)} {d : α → Option M} {x : SR} {a : α} {l : List Tok} (h : ResL ws p pre suf d x (.ok (a, l))) : ∃ q, p ≤ q ∧ At ws l q ∧ x = .nx (some (.own (rdO ws q)) :: (pre ++ d a :: suf)) := h
theorem ResL.err {α : Type} {ws : List Tok} {p : Nat} {pre suf : List (Option M)} {d : α → Option M} {x : SR} {l : List Tok} (h : ResL ws p pre suf d x (.error l)) : ∃ q a, p ≤ q ∧ At ws l q ∧ x = .ex "FaultyText" [("at", .int ((q : Int) + 1))] (some (.own (rdO ws q)) :: (pre ++ d a :: suf)) := h
theorem cond_res {ws : List Tok} (hz : Toks ws) {l : List Tok} {p : Nat} (ha : At ws l p) : Res ws p (fun c => .val (cndD c)) [] (F_Reader_condition_2 [.own (rdO ws p)]) (pCond l) := by
  have h1 := name_res hz ha
  unfold pCond
  cases hn : pName l with
  | error e =>
    rw [hn] at h1
    obtain ⟨q, hq1, hq2, hq3⟩ := h1
    exact ⟨q, hq1, hq2, by simp -implicitDefEqProofs [F_Reader_condition_2, hq3]⟩
  | ok wr =>
    obtain ⟨nm, r⟩ := wr
    rw [hn] at h1
    obtain ⟨q, hq1, hq2, hq3⟩ := h1
    by_cases hs : r.headD [] = wIn
    · have hp := passes_yes hz.z (p := q) (w := wIn) (by rw [hq2.head, hs])
      obtain ⟨g2, g3⟩ := hq2.tail (by rw [hs]; decide)
      have hpt := path_res hz g2
      simp only [if_pos hs]
      cases hc : pPath r.tail with
      | error e =>
        rw [hc] at hpt
        obtain ⟨q2, k1, k2, k3⟩ := hpt
        exact ⟨q2, by omega, k2, by simp -implicitDefEqProofs [F_Reader_condition_2, hq3, in_tx, hp, k3]⟩
      | ok wr =>
        obtain ⟨w, r2⟩ := wr
        rw [hc] at hpt
        obtain ⟨q2, k1, k2, k3⟩ := hpt
        have hzn := hz.n
        have hrl := k2.le
        have hl := pathsL_res hz (some (.val (dT nm))) r2.length r2 [w] q2 (Nat.le_refl _) k2 (by simp; omega)
        show Res ws p _ [] _ (match pathsL r2.length r2 [w] with | .error e => .error e | .ok (ps, r') => .ok ((nm, ps), r'))
        cases hd : pathsL r2.length r2 [w] with
        | error e =>
          rw [hd] at hl
          obtain ⟨q3, a, m1, m2, m3⟩ := hl.err
          refine ⟨q3, by omega, m2, ?_⟩
          simp -implicitDefEqProofs [F_Reader_condition_2, hq3, in_tx, hp, k3]
          rw [show ([dT w] : List D) = [w].map dT from rfl, m3]
          simp
        | ok psr =>
          obtain ⟨ps, r3⟩ := psr
          rw [hd] at hl
          obtain ⟨q3, m1, m2, m3⟩ := hl.ok_
          refine ⟨q3, by omega, m2, ?_⟩
          have hpl : ps.length ≤ 16777216 := by
            have : ∀ (n : Nat) (l a ps r : List Tok), pathsL n l a = .ok (ps, r) → ps.length ≤ a.length + n := by
              intro n
              induction n with
              | zero => intro l a ps r h; rw [pathsL] at h; cases h; omega
              | succ n ih =>
                intro l a ps r h
                rw [pathsL] at h
                by_cases h44 : l.headD [] = [44]
                · rw [if_pos h44] at h
                  cases hx : pPath l.tail with
                  | error e => rw [hx] at h; cases h
                  | ok x =>
                    rw [hx] at h
                    have := ih _ _ _ _ h
                    simp at this; omega
                · rw [if_neg h44] at h; cases h; omega
            have := this _ _ _ _ _ hd
            simp at this; omega
          simp -implicitDefEqProofs [F_Reader_condition_2, hq3, in_tx, hp, k3]
          rw [show ([dT w] : List D) = [w].map dT from rfl, m3]
          simp -implicitDefEqProofs [hpl]
    · have hp := passes_no hz.z (p := q) (w := wIn) (by rw [hq2.head]; exact hs)
      have hrf := refuse_eq ws q
      simp only [if_neg hs]
      exact ⟨q, hq1, hq2, by simp -implicitDefEqProofs [F_Reader_condition_2, hq3, in_tx, hp, hrf]⟩
def condsL : Nat → List Tok → List Cnd → Except (List Tok) (List Cnd × List Tok)
  | 0, l, a => .ok (a, l)
  | n + 1, l, a => if l.headD [] = wAnd then (match pCond l.tail with
      | .ok (c, r) => condsL n r (a ++ [c])
      | .error e => .error e) else .ok (a, l)
theorem condsL_len : ∀ (n : Nat) (l : List Tok) (a ps : List Cnd) (r : List Tok), condsL n l a = .ok (ps, r) → ps.length ≤ a.length + n := by
  intro n
  induction n with
  | zero => intro l a ps r h; rw [condsL] at h; cases h; omega
  | succ n ih =>
    intro l a ps r h
    rw [condsL] at h
    by_cases h44 : l.headD [] = wAnd
    · rw [if_pos h44] at h
      cases hx : pCond l.tail with
      | error e => rw [hx] at h; cases h
      | ok x =>
        rw [hx] at h
        have := ih _ _ _ _ h
        simp at this; omega
    · rw [if_neg h44] at h; cases h; omega
theorem condsL_res {ws : List Tok} (hz : Toks ws) (s1 s2 : Option M) : ∀ (n : Nat) (l : List Tok) (a : List Cnd) (p : Nat), l.length ≤ n → At ws l p → a.length + l.length ≤ 1000000 →
    ResL ws p [s1, s2] [] (fun g => some (.own (.lst (g.map cndD)))) (mWhile (mTst (mMeth F_Reader_passes "Reader" "passes" (mName 0) (mCons (mC (.str "and")) mNil))) (mExpr (mApp (mName 3) (mMeth F_Reader_condition_2 "Reader" "condition" (mName 0) mNil))) [some (.own (rdO ws p)), s1, s2, some (.own (.lst (a.map cndD)))]) (condsL n l a)
  | n, l, a, p, hn, ha, hf => by
    by_cases hs : l.headD [] = wAnd
    · have hp := passes_yes hz.z (p := p) (w := wAnd) (by rw [ha.head, hs])
      have ht : mTst (mMeth F_Reader_passes "Reader" "passes" (mName 0) (mCons (mC (.str "and")) mNil)) [some (.own (rdO ws p)), s1, s2, some (.own (.lst (a.map cndD)))] = .ok true [some (.own (rdO ws (p + 1))), s1, s2, some (.own (.lst (a.map cndD)))] := by
        simp -implicitDefEqProofs [and_tx, hp]
      obtain ⟨h2, h3⟩ := ha.tail (by rw [hs]; decide)
      cases n with
      | zero => omega
      | succ n =>
        rw [condsL, if_pos hs]
        have hpt := cond_res hz h2
        cases hc : pCond l.tail with
        | error e =>
          rw [hc] at hpt
          obtain ⟨q, hq1, hq2, hq3⟩ := hpt
          refine ⟨q, a, by omega, hq2, while_ex ht ?_⟩
          simp -implicitDefEqProofs [hq3]
        | ok wr =>
          obtain ⟨w, r⟩ := wr
          rw [hc] at hpt
          obtain ⟨q, hq1, hq2, hq3⟩ := hpt
          have hrl := h2.sub hq2 hq1
          have hal : a.length < 16777216 := by omega
          have ih := (condsL_res hz s1 s2 n r (a ++ [w]) q (by omega) hq2 (by simp; omega)).mono (p' := p) (by omega)
          show ResL ws p _ _ _ _ (condsL n r (a ++ [w]))
          rw [while_step (e1 := [some (.own (rdO ws (p + 1))), s1, s2, some (.own (.lst (a.map cndD)))]) (e2 := [some (.own (rdO ws q)), s1, s2, some (.own (.lst ((a ++ [w]).map cndD)))]) ht ?_ ih.no]
          · exact ih
          · simp -implicitDefEqProofs [hq3, hal]
    · have e0 : condsL n l a = .ok (a, l) := by
        cases n with
        | zero => rw [condsL]
        | succ n => rw [condsL, if_neg hs]
      rw [e0]
      have hp := passes_no hz.z (p := p) (w := wAnd) (by rw [ha.head]; exact hs)
      refine ⟨p, Nat.le_refl _, ha, (while_end (e1 := [some (.own (rdO ws p)), s1, s2, some (.own (.lst (a.map cndD)))]) ?_).trans rfl⟩
      simp -implicitDefEqProofs [and_tx, hp]
inductive Tr where
  | sum (cs : List Cnd)
  | times (n : Nat) (t : Tr)
  | minus (t : Tr)
  | plus (a b : Tr)
  | less (a b : Tr)
def trD : Tr → D
  | .sum cs => .tup [dT wSum, .tup (cs.map cndD)]
  | .times n t => .tup [.str "times", .int n, trD t]
  | .minus t => .tup [.str "minus", trD t]
  | .plus a b => .tup [.str "plus", trD a, trD b]
  | .less a b => .tup [.str "less", trD a, trD b]
abbrev PT := Except (List Tok) (Tr × List Tok)
def pSum (l : List Tok) : PT := if l.headD [] = wWhere then (match pCond l.tail with
    | .error e => .error e
    | .ok (c, r) => match condsL r.length r [c] with
      | .error e => .error e
      | .ok (cs, r') => .ok (.sum cs, r')) else .ok (.sum [], l)
def pFactor (R : Nat → List Tok → PT) (lv : Nat) (l : List Tok) : PT :=
  if l.headD [] = [40] ∧ lv < 10 then (match R (lv + 1) l.tail with
    | .error e => .error e
    | .ok (x, r) => if r.headD [] = [41] then .ok (x, r.tail) else .error r)
  else if l.headD [] = wSum then pSum l.tail else .error l
theorem fn_seq {a b : MS} {e e1 : Env} {ms : List M} {k : Bool} (h : a e = .nx e1) : fn1 (mSeq a b e) ms k = fn1 (b e1) ms k := by
  show fn1 (seqK b (a e)) ms k = _
  rw [h]; rfl
theorem factor_res {F : FN} {Rp : Nat → List Tok → PT} {ws : List Tok} (hz : Toks ws) {lv : Nat} (hR : lv < 10 → ∀ l p, At ws l p → Res ws p (fun x => .val (trD x)) [.val (.int ((lv + 1 : Nat) : Int))] (F [.own (rdO ws p), .val (.int ((lv + 1 : Nat) : Int))]) (Rp (lv + 1) l)) {l : List Tok} {p : Nat} (ha : At ws l p) :
    Res ws p (fun x => .val (trD x)) [.val (.int (lv : Nat))] (F_Reader_factor_2 F [.own (rdO ws p), .val (.int (lv : Nat))]) (pFactor Rp lv l) := by
  have hpar : Str.ofString "(" = tx [40] := by decide +kernel
  have hcl : Str.ofString ")" = tx [41] := by decide +kernel
  have hs := seen_eq hz.z p
  rw [ha.head] at hs
  unfold pFactor
  by_cases h40 : l.headD [] = [40] ∧ lv < 10
  · rw [if_pos h40]
    obtain ⟨h4, hlv⟩ := h40
    obtain ⟨g2, g3⟩ := ha.tail (by rw [h4]; simp)
    have hr := hR hlv _ _ g2
    rw [h4] at hs
    have hlt : (lv : Int) < 10 := by omega
    have ecast : ((lv + 1 : Nat) : Int) = (lv : Int) + 1 := by omega
    rw [ecast] at hr
    cases hc : Rp (lv + 1) l.tail with
    | error e =>
      rw [hc] at hr
      obtain ⟨q, k1, k2, k3⟩ := hr
      have k3 : F [.own (.ins "Reader" [("words", .tup (ws.map dT)), ("at", .int ((p : Int) + 1))]), .val (.int ((lv : Int) + 1))] = _ := k3
      exact ⟨q, by omega, k2, by simp -implicitDefEqProofs [F_Reader_factor_2, hpar, hs, hlt, hlv, k3]⟩
    | ok xr =>
      obtain ⟨x, r⟩ := xr
      rw [hc] at hr
      obtain ⟨q, k1, k2, k3⟩ := hr
      have k3 : F [.own (.ins "Reader" [("words", .tup (ws.map dT)), ("at", .int ((p : Int) + 1))]), .val (.int ((lv : Int) + 1))] = _ := k3
      show Res ws p _ _ _ (if r.headD [] = [41] then _ else _)
      by_cases h41 : r.headD [] = [41]
      · rw [if_pos h41]
        have hp := passes_yes hz.z (p := q) (w := [41]) (by rw [k2.head, h41])
        obtain ⟨m2, m3⟩ := k2.tail (by rw [h41]; simp)
        exact ⟨q + 1, by omega, m2, by simp -implicitDefEqProofs [F_Reader_factor_2, hpar, hcl, hs, hlt, hlv, k3, hp]⟩
      · rw [if_neg h41]
        have hp := passes_no hz.z (p := q) (w := [41]) (by rw [k2.head]; exact h41)
        have hrf := refuse_eq ws q
        exact ⟨q, by omega, k2, by simp -implicitDefEqProofs [F_Reader_factor_2, hpar, hcl, hs, hlt, hlv, k3, hp, hrf]⟩
  · rw [if_neg h40]
    have htest : ∀ b : MS, mKill [2] (mIfS (mAndT (mTst (mOp (fEq false) (mMeth F_Reader_seen "Reader" "seen" (mName 0) mNil) (mC (.str "(")))) (mTst (mOp fLt (mName 1) (mC (.int 10))))) b mNext) [some (.own (rdO ws p)), some (.val (.int (lv : Nat))), none, none] = .nx [some (.own (rdO ws p)), some (.val (.int (lv : Nat))), none, none] := by
      intro b
      by_cases h4 : l.headD [] = [40]
      · have hlv : ¬ ((lv : Int) < 10) := by
          have : ¬ lv < 10 := fun h => h40 ⟨h4, h⟩
          omega
        rw [h4] at hs
        simp -implicitDefEqProofs [hpar, hs, hlv]
      · simp -implicitDefEqProofs [hpar, hs, h4, -List.headD_eq_head?_getD]
    by_cases h5 : l.headD [] = wSum
    · rw [if_pos h5]
      have hp := passes_yes hz.z (p := p) (w := wSum) (by rw [ha.head, h5])
      obtain ⟨g2, g3⟩ := ha.tail (by rw [h5]; decide)
      unfold pSum
      by_cases h6 : l.tail.headD [] = wWhere
      · rw [if_pos h6]
        have hp2 := passes_yes hz.z (p := p + 1) (w := wWhere) (by rw [g2.head, h6])
        obtain ⟨k2, k3⟩ := g2.tail (by rw [h6]; decide)
        have hcd := cond_res hz k2
        cases hc : pCond l.tail.tail with
        | error e =>
          rw [hc] at hcd
          obtain ⟨q, m1, m2, m3⟩ := hcd
          refine ⟨q, by omega, m2, ?_⟩
          unfold F_Reader_factor_2
          refine (fn_seq (htest _)).trans ?_
          simp -implicitDefEqProofs [sum_tx, hp, where_tx, hp2, m3]
        | ok cr =>
          obtain ⟨c, r⟩ := cr
          rw [hc] at hcd
          obtain ⟨q, m1, m2, m3⟩ := hcd
          have hzn := hz.n
          have hrl := m2.le
          have hl := condsL_res hz (some (.val (.int (lv : Nat)))) none r.length r [c] q (Nat.le_refl _) m2 (by simp; omega)
          dsimp only
          cases hd : condsL r.length r [c] with
          | error e =>
            rw [hd] at hl
            obtain ⟨q3, a, n1, n2, n3⟩ := hl.err
            refine ⟨q3, by omega, n2, ?_⟩
            unfold F_Reader_factor_2
            refine (fn_seq (htest _)).trans ?_
            simp -implicitDefEqProofs [sum_tx, hp, where_tx, hp2, m3]
            rw [show ([cndD c] : List D) = [c].map cndD from rfl, n3]
            simp
          | ok cs =>
            obtain ⟨cs, r'⟩ := cs
            rw [hd] at hl
            obtain ⟨q3, n1, n2, n3⟩ := hl.ok_
            refine ⟨q3, by omega, n2, ?_⟩
            have hpl : cs.length ≤ 16777216 := by
              have := condsL_len _ _ _ _ _ hd
              simp at this; omega
            unfold F_Reader_factor_2
            refine (fn_seq (htest _)).trans ?_
            simp -implicitDefEqProofs [sum_tx, hp, where_tx, hp2, m3]
            rw [show ([cndD c] : List D) = [c].map cndD from rfl, n3]
            simp -implicitDefEqProofs [hpl, trD]
      · rw [if_neg h6]
        have hp2 := passes_no hz.z (p := p + 1) (w := wWhere) (by rw [g2.head]; exact h6)
        refine ⟨p + 1, by omega, g2, ?_⟩
        unfold F_Reader_factor_2
        refine (fn_seq (htest _)).trans ?_
        simp -implicitDefEqProofs [sum_tx, hp, where_tx, hp2, trD]
    · rw [if_neg h5]
      have hp := passes_no hz.z (p := p) (w := wSum) (by rw [ha.head]; exact h5)
      have hrf := refuse_eq ws p
      refine ⟨p, by omega, ha, ?_⟩
      unfold F_Reader_factor_2
      refine (fn_seq (htest _)).trans ?_
      simp -implicitDefEqProofs [sum_tx, hp, hrf]
theorem numV_numL (n : Nat) : numV (TL.numL n) = n := by
  induction n using Nat.strongRecOn with
  | ind n ih =>
    by_cases hn : n < 10
    · rw [TL.numL_lt hn]
      show 0 * 10 + (48 + n - 48) = n
      omega
    · rw [TL.numL_step (by omega)]
      unfold numV
      rw [List.foldl_append]
      have := ih (n / 10) (by omega)
      unfold numV at this
      rw [this]
      show n / 10 * 10 + (48 + n % 10 - 48) = n
      omega
theorem dgt_iff {n : Nat} : n ∈ dgtL ↔ 48 ≤ n ∧ n ≤ 57 := by
  show n ∈ [48, 49, 50, 51, 52, 53, 54, 55, 56, 57] ↔ _
  simp only [List.mem_cons, List.not_mem_nil, or_false]
  omega
theorem int_num {w : Tok} (h0 : w ≠ []) (h1 : ∀ n ∈ w, n ∈ dgtL) (h2 : w = [48] ∨ w.headD 0 ≠ 48) (h3 : w.length ≤ 4) : intS (tx w) = some (.val (.int (numV w : Nat))) ∧ ∃ n, w = TL.numL n := by
  obtain ⟨n, hn, _⟩ := num_of w.length w rfl h0 (fun x hx => dgt_iff.mp (h1 x hx)) (fun e => by
    rcases h2 with h2 | h2
    · exact h2
    · cases w with
      | nil => exact absurd rfl h0
      | cons c r => exact absurd (by simpa using e) h2)
  refine ⟨?_, n, hn⟩
  have hb : n < 10 ^ 4 := numL_bound (by rw [← hn]; exact h3)
  have hi := int_dec (i := (n : Int)) (by rw [Int.natAbs_natCast]; omega)
  have ed : decL (n : Int) = TL.numL n := by unfold decL; rw [if_neg (by omega), Int.natAbs_natCast]
  rw [ed] at hi
  unfold intS
  rw [cif_pos (by rw [tx_len]; omega), hn, numV_numL, hi]
  rfl
theorem num_all (w : Tok) : allM true (gmName 1) (mOp (fIn false) (mName 1) (mC (.str "0123456789"))) [1] (w.map fun n => dT [n]) [some (.val (dT w)), none] = .ok (w.all fun n => decide (n ∈ dgtL)) [some (.val (dT w)), none] := by
  refine all_of (en := fun n => dT [n]) (p := fun n => decide (n ∈ dgtL)) w fun n _ => ?_
  simp -implicitDefEqProofs [digits_tx, hasS_tx]
theorem is_number_eq {w : Tok} (hl : w.length ≤ 100000) : F_is_number [.val (dT w)] = .ok (.val (.bl (nbOk w))) [.val (dT w)] := by
  have hlw : w.length ≤ 16777216 := by omega
  have hz : Str.ofString "0" = tx [48] := by decide +kernel
  by_cases hne : w = []
  · subst hne
    simp -implicitDefEqProofs [F_is_number, nil_tx0, nbOk]
  · obtain ⟨c, ha0, hhd⟩ : ∃ c, atI w 0 = some c ∧ w.headD 0 = c := by
      cases w with
      | nil => exact absurd rfl hne
      | cons c u => exact ⟨c, atI_c0, rfl⟩
    have h48 : w = [48] → c = 48 := fun e => by rw [e] at hhd; exact hhd.symm
    have hal := num_all w
    have hi := int_num (w := w) hne
    unfold nbOk
    rw [hhd]
    rw [hhd] at hi
    simp only [hne, decide_false, Bool.not_false, Bool.true_and]
    generalize hgl : w.length = L at hlw hi
    have hlen : (tx w).length = L := by rw [tx_len, hgl]
    by_cases h4 : L ≤ 4
    · have h4n : ¬ ((4 : Int) < (L : Nat)) := by omega
      have h4m : ¬ (4 < L) := by omega
      cases ha : (w.all fun n => decide (n ∈ dgtL)) with
      | false =>
        rw [ha] at hal
        simp -implicitDefEqProofs [F_is_number, nil_tx0, hne, hlw, h4n, h4m, h4, -tx_len, hlen]
        rw [hal]
        simp
      | true =>
        rw [ha] at hal
        have hd : ∀ n ∈ w, n ∈ dgtL := by simpa using ha
        by_cases h0 : w = [48]
        · have hint := (hi hd (.inl h0) h4).1
          have e1 : numV w = 0 := by rw [h0]; rfl
          rw [e1] at hint
          have hint : intS (tx w) = some (.val (.int 0)) := hint
          simp -implicitDefEqProofs [F_is_number, nil_tx0, hne, hlw, h4n, h4m, h4, -tx_len, hlen]
          rw [hal]
          simp -implicitDefEqProofs [hz, h0, hint, e1]
          rw [← h0, hint, e1]
          simp
        · by_cases h5 : c = 48
          · subst h5
            simp -implicitDefEqProofs [F_is_number, nil_tx0, hne, hlw, h4n, h4m, h4, -tx_len, hlen]
            rw [hal]
            simp -implicitDefEqProofs [hz, hlw, -tx_len, hlen, h0, ha0]
          · have hint := (hi hd (.inr h5) h4).1
            generalize hN : numV w = N at hint
            by_cases h6 : N ≤ 1000
            · have h6i : (N : Int) ≤ 1000 := by omega
              simp -implicitDefEqProofs [F_is_number, nil_tx0, hne, hlw, h4n, h4m, h4, -tx_len, hlen]
              rw [hal]
              simp -implicitDefEqProofs [hz, hlw, -tx_len, hlen, h0, ha0, h5, hint, h6, h6i]
            · have h6i : ¬ ((N : Int) ≤ 1000) := by omega
              simp -implicitDefEqProofs [F_is_number, nil_tx0, hne, hlw, h4n, h4m, h4, -tx_len, hlen]
              rw [hal]
              simp -implicitDefEqProofs [hz, hlw, -tx_len, hlen, h0, ha0, h5, hint, h6, h6i]
    · have h4n : (4 : Int) < (L : Nat) := by omega
      have h4m : 4 < L := by omega
      simp -implicitDefEqProofs [F_is_number, nil_tx0, hne, hlw, h4n, h4m, h4, -tx_len, hlen]
def pTerm (R : Nat → List Tok → PT) (lv : Nat) (l : List Tok) : PT :=
  if nbOk (l.headD []) = true then (if l.tail.headD [] = [42] then (match pFactor R lv l.tail.tail with
    | .error e => .error e
    | .ok (x, r) => .ok (.times (numV (l.headD [])) x, r)) else .error l.tail)
  else pFactor R lv l
theorem nbOk_ne {w : Tok} (h : nbOk w = true) : w ≠ [] ∧ w.length ≤ 4 ∧ (∀ n ∈ w, n ∈ dgtL) ∧ (w = [48] ∨ w.headD 0 ≠ 48) ∧ numV w ≤ 1000 := by
  unfold nbOk at h
  simp only [Bool.and_eq_true, Bool.not_eq_true', Bool.or_eq_true, decide_eq_true_eq, decide_eq_false_iff_not, List.all_eq_true] at h
  exact ⟨h.1, h.2.1, h.2.2.1, h.2.2.2.1, h.2.2.2.2⟩
theorem headD_len {ws l : List Tok} (hz : Toks ws) {p : Nat} (ha : At ws l p) : (l.headD []).length ≤ 100000 := by
  cases l with
  | nil => simp
  | cons w r => exact hz.w w (ha.mem w (List.mem_cons_self ..))
theorem term_res {F : FN} {Rp : Nat → List Tok → PT} {ws : List Tok} (hz : Toks ws) {lv : Nat} (hR : lv < 10 → ∀ l p, At ws l p → Res ws p (fun x => .val (trD x)) [.val (.int ((lv + 1 : Nat) : Int))] (F [.own (rdO ws p), .val (.int ((lv + 1 : Nat) : Int))]) (Rp (lv + 1) l)) {l : List Tok} {p : Nat} (ha : At ws l p) :
    Res ws p (fun x => .val (trD x)) [.val (.int (lv : Nat))] (F_Reader_term_2 F [.own (rdO ws p), .val (.int (lv : Nat))]) (pTerm Rp lv l) := by
  have hst : Str.ofString "*" = tx [42] := by decide +kernel
  have hs := seen_eq hz.z p
  rw [ha.head] at hs
  have hin := is_number_eq (headD_len hz ha)
  unfold pTerm
  by_cases hb : nbOk (l.headD []) = true
  · rw [if_pos hb]
    rw [hb] at hin
    obtain ⟨b1, b2, b3, b4, b5⟩ := nbOk_ne hb
    obtain ⟨g2, g3⟩ := ha.tail b1
    have hint := (int_num b1 b3 b4 b2).1
    generalize l.headD [] = w at hs hin hint ⊢
    generalize numV w = N at hint ⊢
    by_cases h42 : l.tail.headD [] = [42]
    · rw [if_pos h42]
      have hp := passes_yes hz.z (p := p + 1) (w := [42]) (by rw [g2.head, h42])
      obtain ⟨k2, k3⟩ := g2.tail (by rw [h42]; simp)
      have hp : F_Reader_passes [.own (.ins "Reader" [("words", .tup (ws.map dT)), ("at", .int ((p : Int) + 1))]), .val (dT [42])] = .ok (.val (.bl true)) [.own (rdO ws (p + 1 + 1)), .val (dT [42])] := hp
      have hf := factor_res hz hR k2
      cases hc : pFactor Rp lv l.tail.tail with
      | error e =>
        rw [hc] at hf
        obtain ⟨q, m1, m2, m3⟩ := hf
        refine ⟨q, by omega, m2, ?_⟩
        simp -implicitDefEqProofs [F_Reader_term_2, hs, hin, hint, hst, hp, m3]
      | ok xr =>
        obtain ⟨x, r⟩ := xr
        rw [hc] at hf
        obtain ⟨q, m1, m2, m3⟩ := hf
        refine ⟨q, by omega, m2, ?_⟩
        simp -implicitDefEqProofs [F_Reader_term_2, hs, hin, hint, hst, hp, m3, trD]
    · rw [if_neg h42]
      have hp := passes_no hz.z (p := p + 1) (w := [42]) (by rw [g2.head]; exact h42)
      have hrf := refuse_eq ws (p + 1)
      have hp : F_Reader_passes [.own (.ins "Reader" [("words", .tup (ws.map dT)), ("at", .int ((p : Int) + 1))]), .val (dT [42])] = .ok (.val (.bl false)) [.own (rdO ws (p + 1)), .val (dT [42])] := hp
      refine ⟨p + 1, by omega, g2, ?_⟩
      simp -implicitDefEqProofs [F_Reader_term_2, hs, hin, hint, hst, hp, hrf]
  · rw [if_neg hb]
    rw [show nbOk (l.headD []) = false by simpa using hb] at hin
    have hf := factor_res hz hR ha
    generalize l.headD [] = w at hs hin ⊢
    cases hc : pFactor Rp lv l with
    | error e =>
      rw [hc] at hf
      obtain ⟨q, m1, m2, m3⟩ := hf
      refine ⟨q, by omega, m2, ?_⟩
      simp -implicitDefEqProofs [F_Reader_term_2, hs, hin, m3]
    | ok xr =>
      obtain ⟨x, r⟩ := xr
      rw [hc] at hf
      obtain ⟨q, m1, m2, m3⟩ := hf
      refine ⟨q, by omega, m2, ?_⟩
      simp -implicitDefEqProofs [F_Reader_term_2, hs, hin, m3]
def exprL (P : List Tok → PT) : Nat → List Tok → Tr → PT
  | 0, l, x => .ok (x, l)
  | n + 1, l, x => if l.headD [] = [43] then (match P l.tail with
      | .ok (y, r) => exprL P n r (.plus x y)
      | .error e => .error e)
    else if l.headD [] = [45] then (match P l.tail with
      | .ok (y, r) => exprL P n r (.less x y)
      | .error e => .error e) else .ok (x, l)
noncomputable def B_expr (F : FN) : MS := mKill [3] (mSeq (mSet 3 (mMeth F_Reader_seen "Reader" "seen" (mName 0) mNil))
    (mSeq (mStF "Reader" "at" (mName 0) (mOp fAdd (mFld "Reader" "at" (mName 0)) (mC (.int 1))))
    (mSet 2 (mTup (mCons (mIf (mTst (mOp (fEq false) (mName 3) (mC (.str "+")))) (mC (.str "plus")) (mC (.str "less"))) (mCons (mName 2) (mCons (mMeth (F_Reader_term_2 F) "Reader" "term" (mName 0) (mCons (mName 1) mNil)) mNil)))))))
noncomputable def T_expr : MT := mOrT (mTst (mOp (fEq false) (mMeth F_Reader_seen "Reader" "seen" (mName 0) mNil) (mC (.str "+")))) (mTst (mOp (fEq false) (mMeth F_Reader_seen "Reader" "seen" (mName 0) mNil) (mC (.str "-"))))
theorem exprL_res {F : FN} {P : List Tok → PT} {ws : List Tok} (hz : Toks ws) {lv : Int} (hP : ∀ l p, At ws l p → Res ws p (fun x => .val (trD x)) [.val (.int lv)] (F_Reader_term_2 F [.own (rdO ws p), .val (.int lv)]) (P l)) : ∀ (n : Nat) (l : List Tok) (x : Tr) (p : Nat), l.length ≤ n → At ws l p →
    ∀ s3 : Option M, match exprL P n l x with
    | .ok (y, r) => ∃ q, p ≤ q ∧ At ws r q ∧ mWhile T_expr (B_expr F) [some (.own (rdO ws p)), some (.val (.int lv)), some (.val (trD x)), none] = .nx [some (.own (rdO ws q)), some (.val (.int lv)), some (.val (trD y)), none]
    | .error r => ∃ q y s, p ≤ q ∧ At ws r q ∧ mWhile T_expr (B_expr F) [some (.own (rdO ws p)), some (.val (.int lv)), some (.val (trD x)), none] = .ex "FaultyText" [("at", .int ((q : Int) + 1))] [some (.own (rdO ws q)), some (.val (.int lv)), some (.val (trD y)), s]
  | n, l, x, p, hn, ha, s3 => by
    have hpl : Str.ofString "+" = tx [43] := by decide +kernel
    have hmi : Str.ofString "-" = tx [45] := by decide +kernel
    have hs := seen_eq hz.z p
    rw [ha.head] at hs
    by_cases h1 : l.headD [] = [43]
    · obtain ⟨g2, g3⟩ := ha.tail (by rw [h1]; simp)
      rw [h1] at hs
      have ht : T_expr [some (.own (rdO ws p)), some (.val (.int lv)), some (.val (trD x)), none] = .ok true [some (.own (rdO ws p)), some (.val (.int lv)), some (.val (trD x)), none] := by
        simp -implicitDefEqProofs [T_expr, hpl, hmi, hs]
      cases n with
      | zero => omega
      | succ n =>
        rw [exprL, if_pos h1]
        have hf := hP _ _ g2
        cases hc : P l.tail with
        | error e =>
          rw [hc] at hf
          obtain ⟨q, m1, m2, m3⟩ := hf
          have m3 : F_Reader_term_2 F [.own (.ins "Reader" [("words", .tup (ws.map dT)), ("at", .int ((p : Int) + 1))]), .val (.int lv)] = _ := m3
          refine ⟨q, x, some (.val (dT [43])), by omega, m2, while_ex ht ?_⟩
          simp -implicitDefEqProofs [B_expr, hpl, hs, m3]
        | ok yr =>
          obtain ⟨y, r⟩ := yr
          rw [hc] at hf
          obtain ⟨q, m1, m2, m3⟩ := hf
          have m3 : F_Reader_term_2 F [.own (.ins "Reader" [("words", .tup (ws.map dT)), ("at", .int ((p : Int) + 1))]), .val (.int lv)] = _ := m3
          have hrl := g2.sub m2 m1
          have ih := exprL_res hz hP n r (.plus x y) q (by omega) m2 none
          have hb : B_expr F [some (.own (rdO ws p)), some (.val (.int lv)), some (.val (trD x)), none] = .nx [some (.own (rdO ws q)), some (.val (.int lv)), some (.val (trD (.plus x y))), none] := by
            simp -implicitDefEqProofs [B_expr, hpl, hs, m3, trD]
          dsimp only
          cases hd : exprL P n r (.plus x y) with
          | error e =>
            rw [hd] at ih
            obtain ⟨q2, y2, s, n1, n2, n3⟩ := ih
            exact ⟨q2, y2, s, by omega, n2, by rw [while_step ht hb (by rw [n3]; simp), n3]⟩
          | ok yr2 =>
            obtain ⟨y2, r2⟩ := yr2
            rw [hd] at ih
            obtain ⟨q2, n1, n2, n3⟩ := ih
            exact ⟨q2, by omega, n2, by rw [while_step ht hb (by rw [n3]; simp), n3]⟩
    · by_cases h2 : l.headD [] = [45]
      · obtain ⟨g2, g3⟩ := ha.tail (by rw [h2]; simp)
        rw [h2] at hs
        have ht : T_expr [some (.own (rdO ws p)), some (.val (.int lv)), some (.val (trD x)), none] = .ok true [some (.own (rdO ws p)), some (.val (.int lv)), some (.val (trD x)), none] := by
          simp -implicitDefEqProofs [T_expr, hpl, hmi, hs]
        cases n with
        | zero => omega
        | succ n =>
          rw [exprL, if_neg h1, if_pos h2]
          have hf := hP _ _ g2
          cases hc : P l.tail with
          | error e =>
            rw [hc] at hf
            obtain ⟨q, m1, m2, m3⟩ := hf
            have m3 : F_Reader_term_2 F [.own (.ins "Reader" [("words", .tup (ws.map dT)), ("at", .int ((p : Int) + 1))]), .val (.int lv)] = _ := m3
            refine ⟨q, x, some (.val (dT [45])), by omega, m2, while_ex ht ?_⟩
            simp -implicitDefEqProofs [B_expr, hpl, hs, m3]
          | ok yr =>
            obtain ⟨y, r⟩ := yr
            rw [hc] at hf
            obtain ⟨q, m1, m2, m3⟩ := hf
            have m3 : F_Reader_term_2 F [.own (.ins "Reader" [("words", .tup (ws.map dT)), ("at", .int ((p : Int) + 1))]), .val (.int lv)] = _ := m3
            have hrl := g2.sub m2 m1
            have ih := exprL_res hz hP n r (.less x y) q (by omega) m2 none
            have hb : B_expr F [some (.own (rdO ws p)), some (.val (.int lv)), some (.val (trD x)), none] = .nx [some (.own (rdO ws q)), some (.val (.int lv)), some (.val (trD (.less x y))), none] := by
              simp -implicitDefEqProofs [B_expr, hpl, hs, m3, trD]
            dsimp only
            cases hd : exprL P n r (.less x y) with
            | error e =>
              rw [hd] at ih
              obtain ⟨q2, y2, s, n1, n2, n3⟩ := ih
              exact ⟨q2, y2, s, by omega, n2, by rw [while_step ht hb (by rw [n3]; simp), n3]⟩
            | ok yr2 =>
              obtain ⟨y2, r2⟩ := yr2
              rw [hd] at ih
              obtain ⟨q2, n1, n2, n3⟩ := ih
              exact ⟨q2, by omega, n2, by rw [while_step ht hb (by rw [n3]; simp), n3]⟩
      · have e0 : exprL P n l x = .ok (x, l) := by
          cases n with
          | zero => rw [exprL]
          | succ n => rw [exprL, if_neg h1, if_neg h2]
        rw [e0]
        refine ⟨p, Nat.le_refl _, ha, while_end (e1 := [some (.own (rdO ws p)), some (.val (.int lv)), some (.val (trD x)), none]) ?_⟩
        generalize l.headD [] = w at hs h1 h2
        simp -implicitDefEqProofs [T_expr, hpl, hmi, hs, h1, h2]
def pExpr (R : Nat → List Tok → PT) (lv : Nat) (l : List Tok) : PT :=
  if l.headD [] = [45] then (match pTerm R lv l.tail with
    | .error e => .error e
    | .ok (x, r) => exprL (pTerm R lv) r.length r (.minus x))
  else (match pTerm R lv l with
    | .error e => .error e
    | .ok (x, r) => exprL (pTerm R lv) r.length r x)
def pE : Nat → Nat → List Tok → PT
  | 0, _, l => .error l
  | n + 1, lv, l => pExpr (pE n) lv l
theorem expr_res {F : FN} {Rp : Nat → List Tok → PT} {ws : List Tok} (hz : Toks ws) {lv : Nat} (hR : lv < 10 → ∀ l p, At ws l p → Res ws p (fun x => .val (trD x)) [.val (.int ((lv + 1 : Nat) : Int))] (F [.own (rdO ws p), .val (.int ((lv + 1 : Nat) : Int))]) (Rp (lv + 1) l)) {l : List Tok} {p : Nat} (ha : At ws l p) :
    Res ws p (fun x => .val (trD x)) [.val (.int (lv : Nat))] (F_Reader_expression_2_b F [.own (rdO ws p), .val (.int (lv : Nat))]) (pExpr Rp lv l) := by
  have hmi : Str.ofString "-" = tx [45] := by decide +kernel
  unfold pExpr
  by_cases h1 : l.headD [] = [45]
  · rw [if_pos h1]
    have hp := passes_yes hz.z (p := p) (w := [45]) (by rw [ha.head, h1])
    obtain ⟨g2, g3⟩ := ha.tail (by rw [h1]; simp)
    have hf := term_res hz hR g2
    cases hc : pTerm Rp lv l.tail with
    | error e =>
      rw [hc] at hf
      obtain ⟨q, m1, m2, m3⟩ := hf
      exact ⟨q, by omega, m2, by simp -implicitDefEqProofs [F_Reader_expression_2_b, hmi, hp, m3]⟩
    | ok xr =>
      obtain ⟨x, r⟩ := xr
      rw [hc] at hf
      obtain ⟨q, m1, m2, m3⟩ := hf
      have hl := exprL_res hz (lv := (lv : Nat)) (P := pTerm Rp lv) (fun l p h => term_res hz hR h) r.length r (.minus x) q (Nat.le_refl _) m2 none
      dsimp only
      have hsq : ∀ s : SR, mWhile T_expr (B_expr F) [some (.own (rdO ws q)), some (.val (.int (lv : Nat))), some (.val (trD (.minus x))), none] = s → F_Reader_expression_2_b F [.own (rdO ws p), .val (.int (lv : Nat))] = fn1 (seqK (mRet [0] (mName 2)) s) [.own (rdO ws p), .val (.int (lv : Nat))] true := by
        intro s hs
        have h0 : (mIfS (mTst (mMeth F_Reader_passes "Reader" "passes" (mName 0) (mCons (mC (.str "-")) mNil))) (mSet 2 (mTup (mCons (mC (.str "minus")) (mCons (mMeth (F_Reader_term_2 F) "Reader" "term" (mName 0) (mCons (mName 1) mNil)) mNil)))) (mSet 2 (mMeth (F_Reader_term_2 F) "Reader" "term" (mName 0) (mCons (mName 1) mNil)))) [some (.own (rdO ws p)), some (.val (.int (lv : Nat))), none, none] = .nx [some (.own (rdO ws q)), some (.val (.int (lv : Nat))), some (.val (trD (.minus x))), none] := by
          simp -implicitDefEqProofs [hmi, hp, m3, trD]
        unfold F_Reader_expression_2_b
        refine (fn_seq h0).trans ?_
        show fn1 (seqK _ (mWhile T_expr (B_expr F) _)) _ true = _
        rw [hs]
      cases hd : exprL (pTerm Rp lv) r.length r (.minus x) with
      | error e =>
        rw [hd] at hl
        obtain ⟨q2, y, s, n1, n2, n3⟩ := hl
        refine ⟨q2, by omega, n2, ?_⟩
        rw [hsq _ n3]
        simp
      | ok yr =>
        obtain ⟨y, r2⟩ := yr
        rw [hd] at hl
        obtain ⟨q2, n1, n2, n3⟩ := hl
        refine ⟨q2, by omega, n2, ?_⟩
        rw [hsq _ n3]
        simp
  · rw [if_neg h1]
    have hp := passes_no hz.z (p := p) (w := [45]) (by rw [ha.head]; exact h1)
    have hf := term_res hz hR ha
    cases hc : pTerm Rp lv l with
    | error e =>
      rw [hc] at hf
      obtain ⟨q, m1, m2, m3⟩ := hf
      exact ⟨q, by omega, m2, by simp -implicitDefEqProofs [F_Reader_expression_2_b, hmi, hp, m3]⟩
    | ok xr =>
      obtain ⟨x, r⟩ := xr
      rw [hc] at hf
      obtain ⟨q, m1, m2, m3⟩ := hf
      have hl := exprL_res hz (lv := (lv : Nat)) (P := pTerm Rp lv) (fun l p h => term_res hz hR h) r.length r x q (Nat.le_refl _) m2 none
      dsimp only
      have hsq : ∀ s : SR, mWhile T_expr (B_expr F) [some (.own (rdO ws q)), some (.val (.int (lv : Nat))), some (.val (trD x)), none] = s → F_Reader_expression_2_b F [.own (rdO ws p), .val (.int (lv : Nat))] = fn1 (seqK (mRet [0] (mName 2)) s) [.own (rdO ws p), .val (.int (lv : Nat))] true := by
        intro s hs
        have h0 : (mIfS (mTst (mMeth F_Reader_passes "Reader" "passes" (mName 0) (mCons (mC (.str "-")) mNil))) (mSet 2 (mTup (mCons (mC (.str "minus")) (mCons (mMeth (F_Reader_term_2 F) "Reader" "term" (mName 0) (mCons (mName 1) mNil)) mNil)))) (mSet 2 (mMeth (F_Reader_term_2 F) "Reader" "term" (mName 0) (mCons (mName 1) mNil)))) [some (.own (rdO ws p)), some (.val (.int (lv : Nat))), none, none] = .nx [some (.own (rdO ws q)), some (.val (.int (lv : Nat))), some (.val (trD x)), none] := by
          simp -implicitDefEqProofs [hmi, hp, m3]
        unfold F_Reader_expression_2_b
        refine (fn_seq h0).trans ?_
        show fn1 (seqK _ (mWhile T_expr (B_expr F) _)) _ true = _
        rw [hs]
      cases hd : exprL (pTerm Rp lv) r.length r x with
      | error e =>
        rw [hd] at hl
        obtain ⟨q2, y, s, n1, n2, n3⟩ := hl
        refine ⟨q2, by omega, n2, ?_⟩
        rw [hsq _ n3]
        simp
      | ok yr =>
        obtain ⟨y, r2⟩ := yr
        rw [hd] at hl
        obtain ⟨q2, n1, n2, n3⟩ := hl
        refine ⟨q2, by omega, n2, ?_⟩
        rw [hsq _ n3]
        simp
theorem pE_res {ws : List Tok} (hz : Toks ws) : ∀ (n lv : Nat), 11 ≤ n + lv → lv ≤ 10 → ∀ l p, At ws l p → Res ws p (fun x => .val (trD x)) [.val (.int (lv : Nat))] (F_Reader_expression_2 n [.own (rdO ws p), .val (.int (lv : Nat))]) (pE n lv l)
  | 0, lv, h, hl, l, p, _ => by omega
  | n + 1, lv, h, hl, l, p, ha => expr_res hz (F := F_Reader_expression_2 n) (Rp := pE n) (fun hlt l p h' => pE_res hz n (lv + 1) (by omega) (by omega) l p h') ha
def pRead (ws : List Tok) : Except Nat Tr := match pE 12 0 ws with
  | .error e => .error e.length
  | .ok (x, r) => if r.headD [] = [] then .ok x else .error r.length
theorem read_eq {T : List Nat} {ws : List Tok} (hx : Lex T ws) (hz : T.length ≤ 500000) (hT : Toks ws) :
    F_read_expression_2 [.val (dT T)] = match pRead ws with
      | .ok x => .ok (.val (trD x)) [.val (dT T)]
      | .error k => .ex "FaultyText" [("at", .int (((ws.length - k : Nat) : Int) + 1))] [.val (dT T)] := by
  have ht := tokens_lex hx hz hT.z
  have h0 : At ws ws 0 := ⟨by simp, by simp⟩
  have he := pE_res hT 12 0 (by omega) (by omega) ws 0 h0
  have hin : F_Reader___init [.own (.ins "Reader" []), .val (dT T)] = .ok (.val .non) [.own (rdO ws 0), .val (dT T)] := by
    simp -implicitDefEqProofs [F_Reader___init, ht]
  unfold pRead
  cases hc : pE 12 0 ws with
  | error e =>
    rw [hc] at he
    obtain ⟨q, m1, m2, m3⟩ := he
    have hq : ws.length - e.length = q := by have := m2.n; omega
    have m3 : F_Reader_expression_2 12 [.own (rdO ws 0), .val (.int 0)] = _ := m3
    dsimp only
    rw [hq]
    simp -implicitDefEqProofs [F_read_expression_2, hin, m3]
  | ok xr =>
    obtain ⟨x, r⟩ := xr
    rw [hc] at he
    obtain ⟨q, m1, m2, m3⟩ := he
    have hq : ws.length - r.length = q := by have := m2.n; omega
    have m3 : F_Reader_expression_2 12 [.own (rdO ws 0), .val (.int 0)] = _ := m3
    have hs := seen_eq hT.z q
    rw [m2.head] at hs
    have hrf := refuse_eq ws q
    dsimp only
    by_cases hr : r.headD [] = []
    · rw [if_pos hr]
      rw [hr] at hs
      simp -implicitDefEqProofs [F_read_expression_2, hin, m3, hs, nil_tx0]
    · rw [if_neg hr]
      dsimp only
      rw [hq]
      generalize r.headD [] = w at hs hr
      simp -implicitDefEqProofs [F_read_expression_2, hin, m3, hs, nil_tx0, hr, hrf]
end VL
set_option Elab.async false
set_option linter.all false
set_option maxRecDepth 100000
set_option maxHeartbeats 4000000
namespace VL
open PySem PySem.Spec PyProof.Rows L2
variable [CM]
theorem nmOk_word {w : Tok} (h : isWord w = true) : nmOk w = true := by
  obtain ⟨h1, h2, h3, h4, h5, h6, h7⟩ := word_facts h
  unfold nmOk
  cases w with
  | nil => exact absurd rfl h1
  | cons c u =>
    have hc := h3 c (List.mem_cons_self ..)
    simp only [List.headD_cons, hc, h4, h5, h6, h7, h2, decide_true, decide_false, Bool.or_self, Bool.not_false, Bool.and_self, h1]
def okR (rest : List Tok) : Prop := rest.headD [] ≠ [47] ∧ rest.headD [] ≠ [44] ∧ rest.headD [] ≠ wAnd ∧ rest.headD [] ≠ wWhere
theorem pathL_end {l : List Tok} {f : Tok} (h : l.headD [] ≠ [47]) : pathL l f = .ok (f, l) := by
  cases l with
  | nil => rw [pathL]
  | cons s t =>
    have h' : s ≠ [47] := h
    cases t with
    | nil => rw [pathL, if_neg h']
    | cons w r => rw [pathL, if_neg h']
theorem pathL_run {rest : List Tok} (hr : rest.headD [] ≠ [47]) : ∀ (r : List Tok) (f : Tok), (∀ w ∈ r, isWord w = true) → pathL ((r.flatMap fun x => [[47], x]) ++ rest) f = .ok (f ++ r.flatMap (fun x => 47 :: x), rest)
  | [], f, _ => by simpa using pathL_end hr
  | w :: r, f, h => by
    have ih := pathL_run hr r (f ++ 47 :: w) (fun x hx => h x (List.mem_cons_of_mem _ hx))
    show pathL ([47] :: w :: ((r.flatMap fun x => [[47], x]) ++ rest)) f = _
    rw [pathL, if_pos rfl]
    simp only [nmOk_word (h w (List.mem_cons_self ..)), if_true]
    rw [ih]; simp
theorem pPath_run {rest : List Tok} (hr : rest.headD [] ≠ [47]) {p : List Tok} (hp : p ≠ []) (h : ∀ w ∈ p, isWord w = true) : pPath (pathK p ++ rest) = .ok (pathT p, rest) := by
  cases p with
  | nil => exact absurd rfl hp
  | cons w r =>
    have e1 : pName (pathK (w :: r) ++ rest) = .ok (w, (r.flatMap fun x => [[47], x]) ++ rest) := by
      show (if nmOk w = true then _ else _) = _
      rw [if_pos (nmOk_word (h w (List.mem_cons_self ..)))]
      rfl
    unfold pPath
    rw [e1]
    show pathL _ w = _
    rw [pathL_run hr r w (fun x hx => h x (List.mem_cons_of_mem _ hx)), pathT_cons]
abbrev CndW := Tok × List (List Tok)
def toC (c : CndW) : Cnd := (c.1, c.2.map pathT)
structure CndOk (c : CndW) : Prop where
  n : isWord c.1 = true
  ne : c.2 ≠ []
  w : ∀ p ∈ c.2, p ≠ [] ∧ ∀ x ∈ p, isWord x = true
def pathsW : List (List Tok) → List Tok
  | [] => []
  | p :: ps => pathK p ++ ps.flatMap fun q => [44] :: pathK q
def condW (c : CndW) : List Tok := c.1 :: wIn :: pathsW c.2
def sumW : List CndW → List Tok
  | [] => [wSum]
  | c :: cs => wSum :: wWhere :: (condW c ++ cs.flatMap fun c => wAnd :: condW c)
theorem pathsL_end {n : Nat} {l a : List Tok} (h : l.headD [] ≠ [44]) : pathsL n l a = .ok (a, l) := by
  cases n with
  | zero => rw [pathsL]
  | succ n => rw [pathsL, if_neg h]
theorem pathsL_run {rest : List Tok} (hr : rest.headD [] ≠ [47]) (hr2 : rest.headD [] ≠ [44]) : ∀ (ps : List (List Tok)) (a : List Tok) (n : Nat), (∀ p ∈ ps, p ≠ [] ∧ ∀ x ∈ p, isWord x = true) → ps.length ≤ n → pathsL n ((ps.flatMap fun q => [44] :: pathK q) ++ rest) a = .ok (a ++ ps.map pathT, rest)
  | [], a, n, _, _ => by simpa using pathsL_end hr2
  | p :: ps, a, 0, _, h => by simp at h
  | p :: ps, a, n + 1, h, hn => by
    have ih := pathsL_run hr hr2 ps (a ++ [pathT p]) n (fun x hx => h x (List.mem_cons_of_mem _ hx)) (by simpa using hn)
    obtain ⟨h1, h2⟩ := h p (List.mem_cons_self ..)
    have e : ((p :: ps).flatMap fun q => [44] :: pathK q) ++ rest = [44] :: (pathK p ++ ((ps.flatMap fun q => [44] :: pathK q) ++ rest)) := by simp
    rw [e, pathsL, if_pos (by rfl), List.tail_cons]
    have hh : ((ps.flatMap fun q => [44] :: pathK q) ++ rest).headD [] ≠ [47] := by
      cases ps with
      | nil => simpa using hr
      | cons q ps => simp
    rw [pPath_run hh h1 h2]
    dsimp only
    rw [ih]; simp
theorem flat_len {f : List Tok → List Tok} : ∀ ps : List (List Tok), ps.length ≤ (ps.flatMap fun q => [44] :: f q).length
  | [] => Nat.zero_le _
  | p :: ps => by
    have := flat_len (f := f) ps
    simp only [List.flatMap_cons, List.length_append, List.length_cons] at this ⊢
    omega
theorem pCond_run {rest : List Tok} (hr : rest.headD [] ≠ [47]) (hr2 : rest.headD [] ≠ [44]) {c : CndW} (h : CndOk c) : pCond (condW c ++ rest) = .ok (toC c, rest) := by
  obtain ⟨nm, ps⟩ := c
  obtain ⟨h1, h2, h3⟩ := h
  cases ps with
  | nil => exact absurd rfl h2
  | cons p ps =>
    obtain ⟨g1, g2⟩ := h3 p (List.mem_cons_self ..)
    have e : condW (nm, p :: ps) ++ rest = nm :: wIn :: (pathK p ++ ((ps.flatMap fun q => [44] :: pathK q) ++ rest)) := by simp [condW, pathsW]
    rw [e]
    have e1 : pName (nm :: wIn :: (pathK p ++ ((ps.flatMap fun q => [44] :: pathK q) ++ rest))) = .ok (nm, wIn :: (pathK p ++ ((ps.flatMap fun q => [44] :: pathK q) ++ rest))) := by
      show (if nmOk nm = true then _ else _) = _
      rw [if_pos (nmOk_word h1)]
    unfold pCond
    rw [e1]
    dsimp only
    rw [if_pos (by rfl), List.tail_cons]
    have hh : ((ps.flatMap fun q => [44] :: pathK q) ++ rest).headD [] ≠ [47] := by
      cases ps with
      | nil => simpa using hr
      | cons q ps => simp
    rw [pPath_run hh g1 g2]
    dsimp only
    rw [pathsL_run hr hr2 ps [pathT p] _ (fun x hx => h3 x (List.mem_cons_of_mem _ hx)) (Nat.le_trans (flat_len (f := pathK) ps) (by rw [List.length_append]; exact Nat.le_add_right _ _))]
    rfl
theorem condsL_end {n : Nat} {l : List Tok} {a : List Cnd} (h : l.headD [] ≠ wAnd) : condsL n l a = .ok (a, l) := by
  cases n with
  | zero => rw [condsL]
  | succ n => rw [condsL, if_neg h]
theorem condsL_run {rest : List Tok} (hr : okR rest) : ∀ (cs : List CndW) (a : List Cnd) (n : Nat), (∀ c ∈ cs, CndOk c) → cs.length ≤ n → condsL n ((cs.flatMap fun c => wAnd :: condW c) ++ rest) a = .ok (a ++ cs.map toC, rest)
  | [], a, n, _, _ => by simpa using condsL_end hr.2.2.1
  | c :: cs, a, 0, _, h => by simp at h
  | c :: cs, a, n + 1, h, hn => by
    have ih := condsL_run hr cs (a ++ [toC c]) n (fun x hx => h x (List.mem_cons_of_mem _ hx)) (by simpa using hn)
    have e : ((c :: cs).flatMap fun c => wAnd :: condW c) ++ rest = wAnd :: (condW c ++ ((cs.flatMap fun c => wAnd :: condW c) ++ rest)) := by simp
    rw [e, condsL, if_pos (by rfl), List.tail_cons]
    have hh : ((cs.flatMap fun c => wAnd :: condW c) ++ rest).headD [] ≠ [47] ∧ ((cs.flatMap fun c => wAnd :: condW c) ++ rest).headD [] ≠ [44] := by
      cases cs with
      | nil => exact ⟨hr.1, hr.2.1⟩
      | cons q ps => simp [wAnd]
    rw [pCond_run hh.1 hh.2 (h c (List.mem_cons_self ..))]
    dsimp only
    rw [ih]; simp
theorem flat_len2 : ∀ cs : List CndW, cs.length ≤ (cs.flatMap fun c => wAnd :: condW c).length
  | [] => Nat.zero_le _
  | p :: ps => by
    have := flat_len2 ps
    simp only [List.flatMap_cons, List.length_append, List.length_cons] at this ⊢
    omega
theorem pSum_run {rest : List Tok} (hr : okR rest) : ∀ {cs : List CndW}, (∀ c ∈ cs, CndOk c) → ∃ t, sumW cs ++ rest = wSum :: t ∧ pSum t = .ok (.sum (cs.map toC), rest)
  | [], _ => ⟨rest, rfl, by unfold pSum; rw [if_neg hr.2.2.2]; rfl⟩
  | c :: cs, h => by
    refine ⟨wWhere :: (condW c ++ ((cs.flatMap fun c => wAnd :: condW c) ++ rest)), by simp [sumW], ?_⟩
    unfold pSum
    rw [if_pos (by rfl), List.tail_cons]
    have hh : ((cs.flatMap fun c => wAnd :: condW c) ++ rest).headD [] ≠ [47] ∧ ((cs.flatMap fun c => wAnd :: condW c) ++ rest).headD [] ≠ [44] := by
      cases cs with
      | nil => exact ⟨hr.1, hr.2.1⟩
      | cons q ps => simp [wAnd]
    rw [pCond_run hh.1 hh.2 (h c (List.mem_cons_self ..))]
    dsimp only
    rw [condsL_run hr cs [toC c] _ (fun x hx => h x (List.mem_cons_of_mem _ hx)) (Nat.le_trans (flat_len2 cs) (by rw [List.length_append]; exact Nat.le_add_right _ _))]
    rfl
inductive Wr : Nat → Nat → Tr → List Tok → Prop
  | sum {d cs} : (∀ c ∈ cs, CndOk c) → Wr 0 d (.sum (cs.map toC)) (sumW cs)
  | par {d x l} : Wr 2 d x l → Wr 0 (d + 1) x ([40] :: (l ++ [[41]]))
  | times {d n x l} : n ≤ 1000 → Wr 0 d x l → Wr 1 d (.times n x) (TL.numL n :: [42] :: l)
  | fac {d x l} : Wr 0 d x l → Wr 1 d x l
  | minus {d x l} : Wr 1 d x l → Wr 2 d (.minus x) ([45] :: l)
  | term {d x l} : Wr 1 d x l → Wr 2 d x l
  | plus {d x y l l'} : Wr 2 d x l → Wr 1 d y l' → Wr 2 d (.plus x y) (l ++ [43] :: l')
  | less {d x y l l'} : Wr 2 d x l → Wr 1 d y l' → Wr 2 d (.less x y) (l ++ [45] :: l')
theorem Wr.mono {k d : Nat} {x : Tr} {l : List Tok} (h : Wr k d x l) : ∀ {e : Nat}, d ≤ e → Wr k e x l := by
  induction h with
  | sum hc => intro e _; exact .sum hc
  | par _ ih =>
    intro e he
    cases e with
    | zero => omega
    | succ e => exact .par (ih (by omega))
  | times hn _ ih => intro e he; exact .times hn (ih he)
  | fac _ ih => intro e he; exact .fac (ih he)
  | minus _ ih => intro e he; exact .minus (ih he)
  | term _ ih => intro e he; exact .term (ih he)
  | plus _ _ i1 i2 => intro e he; exact .plus (i1 he) (i2 he)
  | less _ _ i1 i2 => intro e he; exact .less (i1 he) (i2 he)
theorem numL_len : ∀ (k n : Nat), n < 10 ^ (k + 1) → (TL.numL n).length ≤ k + 1
  | 0, n, h => by rw [TL.numL_lt (by omega)]; simp
  | k + 1, n, h => by
    by_cases hn : n < 10
    · rw [TL.numL_lt hn]; simp
    · have := numL_len k (n / 10) (by rw [Nat.pow_succ] at h; omega)
      rw [TL.numL_step (by omega), List.length_append]
      simp; omega
theorem nbOk_num {n : Nat} (h : n ≤ 1000) : nbOk (TL.numL n) = true := by
  have h1 := TL.numL_ne n
  have h2 := numL_len 3 n (by omega)
  have h3 : ((TL.numL n).all fun m => decide (m ∈ dgtL)) = true := by
    rw [List.all_eq_true]
    intro m hm
    have := TL.numL_digits n m hm
    exact decide_eq_true (dgt_iff.mpr (by omega))
  have h4 : TL.numL n = [48] ∨ (TL.numL n).headD 0 ≠ 48 := by
    by_cases h0 : n = 0
    · left; subst h0; rw [TL.numL_lt (by omega)]
    · right
      obtain ⟨c, r, e, hc⟩ := numL_lead (n := n) (by omega)
      rw [e]; show c ≠ 48; exact hc
  unfold nbOk
  simp only [h1, h2, h3, numV_numL, h, decide_true, decide_false, Bool.not_false, Bool.true_and, Bool.and_true]
  rcases h4 with h4 | h4
  · rw [h4]; rfl
  · rw [decide_eq_false h4]; simp
theorem wr_head {k d : Nat} {x : Tr} {l : List Tok} (h : Wr k d x l) (hk : k = 0) (rest : List Tok) : (l ++ rest).headD [] = [40] ∨ (l ++ rest).headD [] = wSum := by
  cases h with
  | sum hc =>
    rename_i cs
    right
    cases cs <;> rfl
  | par _ => left; rfl
  | _ => cases hk
theorem wr1_head {k d : Nat} {x : Tr} {l : List Tok} (h : Wr k d x l) (hk : k = 1) (rest : List Tok) : (l ++ rest).headD [] ≠ [45] := by
  induction h with
  | @times d n x l hn _ _ =>
    show TL.numL n ≠ [45]
    intro e
    have := TL.numL_digits n 45 (by rw [e]; simp)
    omega
  | fac h _ =>
    rcases wr_head h rfl rest with e | e
    · rw [e]; simp
    · rw [e]; decide
  | _ => cases hk
theorem wr_run {k d : Nat} {x : Tr} {l : List Tok} (h : Wr k d x l) : ∀ (n lv : Nat) (rest : List Tok), 11 ≤ n + lv → lv + d ≤ 10 → okR rest →
    (k = 0 → pFactor (pE n) lv (l ++ rest) = .ok (x, rest)) ∧ (k = 1 → pTerm (pE n) lv (l ++ rest) = .ok (x, rest)) ∧ (k = 2 → ∃ m, rest.length ≤ m ∧ pExpr (pE n) lv (l ++ rest) = exprL (pTerm (pE n) lv) m rest x) := by
  induction h with
  | sum hc =>
    intro n lv rest h1 h2 hr
    rename_i cs
    refine ⟨fun _ => ?_, fun h => absurd h (by decide), fun h => absurd h (by decide)⟩
    obtain ⟨t, e1, e2⟩ := pSum_run hr hc
    rw [e1]
    unfold pFactor
    rw [if_neg (by rintro ⟨h, _⟩; exact absurd (show wSum = [40] from h) (by decide)), if_pos (by rfl), List.tail_cons, e2]
  | par hw ih =>
    intro n lv rest h1 h2 hr
    rename_i d x l
    refine ⟨fun _ => ?_, fun h => absurd h (by decide), fun h => absurd h (by decide)⟩
    have hR : okR ([41] :: rest) := ⟨by simp, by simp, by simp [wAnd], by simp [wWhere]⟩
    obtain ⟨m, hm, he⟩ := (ih (n - 1) (lv + 1) ([41] :: rest) (by omega) (by omega) hR).2.2 rfl
    have ee : ([40] :: (l ++ [[41]])) ++ rest = [40] :: (l ++ [41] :: rest) := by simp
    have en : pE n (lv + 1) (l ++ [41] :: rest) = .ok (x, [41] :: rest) := by
      obtain ⟨n', rfl⟩ : ∃ n', n = n' + 1 := ⟨n - 1, by omega⟩
      show pExpr (pE n') (lv + 1) _ = _
      rw [show n' + 1 - 1 = n' from rfl] at he
      rw [he]
      cases m with
      | zero => simp at hm
      | succ m => rw [exprL, if_neg (by simp), if_neg (by simp)]
    rw [ee]
    unfold pFactor
    rw [if_pos ⟨rfl, by omega⟩, List.tail_cons, en]
    rfl
  | times hn hw ih =>
    intro n lv rest h1 h2 hr
    rename_i d k x l
    refine ⟨fun h => absurd h (by decide), fun _ => ?_, fun h => absurd h (by decide)⟩
    have e := (ih n lv rest h1 h2 hr).1 rfl
    show pTerm (pE n) lv (TL.numL k :: [42] :: (l ++ rest)) = _
    unfold pTerm
    rw [if_pos (by exact nbOk_num hn), if_pos (by rfl)]
    show (match pFactor (pE n) lv (l ++ rest) with | .error e => .error e | .ok (x, r) => .ok (.times (numV (TL.numL k)) x, r) : PT) = _
    rw [e, numV_numL]
  | fac hw ih =>
    intro n lv rest h1 h2 hr
    rename_i d x l
    refine ⟨fun h => absurd h (by decide), fun _ => ?_, fun h => absurd h (by decide)⟩
    have e := (ih n lv rest h1 h2 hr).1 rfl
    have hnb : nbOk ((l ++ rest).headD []) ≠ true := by
      rcases wr_head hw rfl rest with e | e
      · rw [e]; decide
      · rw [e]; decide
    unfold pTerm
    rw [if_neg hnb, e]
  | minus hw ih =>
    intro n lv rest h1 h2 hr
    rename_i d x l
    refine ⟨fun h => absurd h (by decide), fun h => absurd h (by decide), fun _ => ?_⟩
    have e := (ih n lv rest h1 h2 hr).2.1 rfl
    refine ⟨rest.length, Nat.le_refl _, ?_⟩
    unfold pExpr
    rw [if_pos (by rfl)]
    show (match pTerm (pE n) lv (l ++ rest) with | .error e => .error e | .ok (x, r) => exprL (pTerm (pE n) lv) r.length r (.minus x) : PT) = _
    rw [e]
  | term hw ih =>
    intro n lv rest h1 h2 hr
    refine ⟨fun h => absurd h (by decide), fun h => absurd h (by decide), fun _ => ?_⟩
    have e := (ih n lv rest h1 h2 hr).2.1 rfl
    refine ⟨rest.length, Nat.le_refl _, ?_⟩
    unfold pExpr
    rw [if_neg (wr1_head hw rfl rest), e]
  | plus hw hw2 ih ih2 =>
    intro n lv rest h1 h2 hr
    rename_i d x y l l'
    refine ⟨fun h => absurd h (by decide), fun h => absurd h (by decide), fun _ => ?_⟩
    have hR : okR ([43] :: (l' ++ rest)) := ⟨by simp, by simp, by simp [wAnd], by simp [wWhere]⟩
    obtain ⟨m, hm, he⟩ := (ih n lv _ h1 h2 hR).2.2 rfl
    have e := (ih2 n lv rest h1 h2 hr).2.1 rfl
    have ee : (l ++ [43] :: l') ++ rest = l ++ [43] :: (l' ++ rest) := by simp
    rw [ee, he]
    simp only [List.length_cons, List.length_append] at hm
    cases m with
    | zero => omega
    | succ m =>
      refine ⟨m, by omega, ?_⟩
      rw [exprL, if_pos (by rfl), List.tail_cons, e]
  | less hw hw2 ih ih2 =>
    intro n lv rest h1 h2 hr
    rename_i d x y l l'
    refine ⟨fun h => absurd h (by decide), fun h => absurd h (by decide), fun _ => ?_⟩
    have hR : okR ([45] :: (l' ++ rest)) := ⟨by simp, by simp, by simp [wAnd], by simp [wWhere]⟩
    obtain ⟨m, hm, he⟩ := (ih n lv _ h1 h2 hR).2.2 rfl
    have e := (ih2 n lv rest h1 h2 hr).2.1 rfl
    have ee : (l ++ [45] :: l') ++ rest = l ++ [45] :: (l' ++ rest) := by simp
    rw [ee, he]
    simp only [List.length_cons, List.length_append] at hm
    cases m with
    | zero => omega
    | succ m =>
      refine ⟨m, by omega, ?_⟩
      rw [exprL, if_neg (by simp), if_pos (by rfl), List.tail_cons, e]
theorem wr_read {d : Nat} {x : Tr} {l : List Tok} (h : Wr 2 d x l) (hd : d ≤ 10) : pRead l = .ok x := by
  obtain ⟨m, hm, he⟩ := (wr_run h 11 0 [] (by omega) (by omega) ⟨by simp, by simp, by simp [wAnd], by simp [wWhere]⟩).2.2 rfl
  have e : pE 12 0 l = .ok (x, []) := by
    show pExpr (pE 11) 0 l = _
    rw [List.append_nil] at he
    rw [he]
    cases m with
    | zero => rw [exprL]
    | succ m => rw [exprL, if_neg (by simp), if_neg (by simp)]
  unfold pRead
  rw [e]
  rfl
def Jn (T U : List Nat) : Prop := ∀ c d r, T.getLast? = some c → U = d :: r → ¬ (c ∈ lettersL ∧ d ∈ lettersL) ∧ ¬ (c ∈ dgtL ∧ d ∈ dgtL)
theorem jn_tail {u t U : List Nat} (h : Jn (u ++ t) U) : Jn t U := fun c d r h1 h2 => by
  refine h c d r ?_ h2
  rw [List.getLast?_append, h1]; rfl
theorem lex_app {T U : List Nat} {l m : List Tok} (h1 : Lex T l) (h2 : Lex U m) (hj : Jn T U) : Lex (T ++ U) (l ++ m) := by
  induction h1 with
  | nil => exact h2
  | blank h ih => exact .blank (ih (jn_tail (u := [32]) hj))
  | word hu hl ht h ih =>
    rename_i u t ws
    rw [List.append_assoc]
    refine .word hu hl ?_ (ih (jn_tail hj))
    cases t with
    | cons c r => exact ht
    | nil =>
      cases U with
      | nil => trivial
      | cons d r =>
        rw [List.append_nil] at hj
        have hL := List.getLast?_eq_some_getLast hu
        exact fun hd => (hj _ d r hL rfl).1 ⟨hl _ (List.getLast_mem hu), hd⟩
  | num hu hl ht h ih =>
    rename_i u t ws
    rw [List.append_assoc]
    refine .num hu hl ?_ (ih (jn_tail hj))
    cases t with
    | cons c r => exact ht
    | nil =>
      cases U with
      | nil => trivial
      | cons d r =>
        rw [List.append_nil] at hj
        have hL := List.getLast?_eq_some_getLast hu
        exact fun hd => (hj _ d r hL rfl).2 ⟨hl _ (List.getLast_mem hu), hd⟩
  | sign h0 h1 h2' h ih =>
    rename_i c t ws
    exact .sign h0 h1 h2' (ih (jn_tail (u := [c]) hj))
theorem jn_r {T U : List Nat} (h : ∀ d r, U = d :: r → d ∉ lettersL ∧ d ∉ dgtL) : Jn T U := fun c d r _ e => ⟨fun z => (h d r e).1 z.2, fun z => (h d r e).2 z.2⟩
theorem jn_l {T U : List Nat} (h : ∀ c, T.getLast? = some c → c ∉ lettersL ∧ c ∉ dgtL) : Jn T U := fun c d r e _ => ⟨fun z => (h c e).1 z.1, fun z => (h c e).2 z.1⟩
theorem lex_gap : ∀ k : Nat, Lex (List.replicate k 32) []
  | 0 => .nil
  | k + 1 => .blank (lex_gap k)
end VL
set_option Elab.async false
set_option linter.all false
set_option maxRecDepth 100000
set_option maxHeartbeats 4000000
namespace VL
open PySem PySem.Spec PyProof.Rows L2
def nbIn (K : PySem.W.Frag) : Bool := match K.lookup cStatics with
  | some ⟨_, _, .dict es _, _⟩ => es.toList.all fun e => !(e.key.isStr sharingNotToldKey)
  | _ => false
theorem nb_of {K : PySem.W.Frag} {h : Heap} (X : K.In h) (e : nbIn K = true) (lim : h.NoLimit) : NoneBooked h := by
  obtain ⟨mc, ⟨o, es, ep, ho, hd, hs, hf⟩, _⟩ := lim
  refine ⟨mc, ⟨o, es, ep, ho, hd, hs, hf⟩, ?_⟩
  rw [← hf]
  unfold nbIn at e
  cases hk : K.lookup cStatics with
  | none => rw [hk] at e; cases e
  | some o' =>
    have h1 := X _ _ hk
    rw [ho] at h1
    obtain rfl := Option.some.inj h1
    rw [hk] at e
    obtain ⟨oc, od, oo, os⟩ := o
    have hd : oo = .dict es ep := hd
    subst hd
    unfold nsFind findBy
    have : es.find? (fun e => e.key.isStr sharingNotToldKey) = none := by
      rw [Array.find?_eq_none]
      intro x hx
      have := List.all_eq_true.mp e x (by simpa using hx)
      simpa using this
    rw [this]
    rfl
theorem thnT {α : Type} {t : Sem α} {Q Q' : α → Shared → Prop} {M : Model} {A : Around} {E : Value → Shared → Prop} {s : Shared} {n : Nat} (hn : n ≤ s.toks) (h : wpAny M A t Q E s) (hQ : ∀ a s', n ≤ s'.toks → Q a s' → Q' a s') : wpAny M A t Q' E s :=
  wpAny_mono (wpAny_toks_of hn h) (fun a s' x => hQ a s' x.1 x.2) fun _ _ x => x.2
theorem thnFT {α : Type} {t : Sem α} {Q Q' : α → Shared → Prop} {M : Model} {A : Around} {E : Value → Shared → Prop} {s : Shared} {n : Nat} (hn : n ≤ s.toks) (h : wpAny M A t Q (fun _ _ => False) s) (hQ : ∀ a s', n ≤ s'.toks → Q a s' → Q' a s') : wpAny M A t Q' E s :=
  wpAny_mono (wpAny_toks_of hn h) (fun a s' x => hQ a s' x.1 x.2) fun _ _ x => x.2.elim
section
variable {X : Cx} {elt tg iter : Expr} {ifs : List Expr} {scope : Scope} {own : List (Str × Nat)} {pos : Pos} {wi : TI} {g : TG} {tt : TT} {te : TE}
theorem PET.of {e : Expr} {t : TE} (h : PE X e t) : PET X e t := fun pins s σ H Q _ I q => h.run pins s σ H Q I q
theorem lc_tok {pins : List (Addr × Obj)} {s : Shared} {σ : L2.St} {H : Hp} {Q : VK} {pos' : Pos} {use : Option (Value → Sem Unit)} {Qf : Value → Shared → Prop} (h1 : 1 ≤ s.toks) (hc : X.calm = true) (hN : X.N.Nodup) (I : Inv X pins σ H s) (hi : PI X tg iter wi) (ok : BlkOk X.N X.env.scope scope own)
    (hg : ∀ (s : Shared) (H : Hp) (C : Addr) (cl : List (Str × Addr)) (fp : List Addr), PG (X.blk s H scope (compEnvC scope cl C X.env) fp) tg g)
    (ht : ∀ (s : Shared) (H : Hp) (C : Addr) (cl : List (Str × Addr)) (fp : List Addr), PTs (X.blk s H scope (compEnvC scope cl C X.env) fp) ifs tt)
    (he : ∀ (s : Shared) (H : Hp) (C : Addr) (cl : List (Str × Addr)) (fp : List Addr), PET (X.blk s H scope (compEnvC scope cl C X.env) fp) elt te) (hs : ∀ x, foldedSetIterable iter X.env x = pure x)
    (h : tLc wi g tt te (own.map (·.2)) σ H Q) (fin : ∀ D C s' m H', Inv X pins σ H' s' → Q (.ref D) H' → s'.heap.Ns C m → FpOk X pins H' C → compPost (model X.prog X.w) X.A X.xe use Qf (.ref D) C (.ok .next) s') :
    wpAny (model X.prog X.w) X.A (comprehension (.ListComp elt [⟨tg, iter, ifs, 0⟩] scope pos) scope X.env pos' (newList []) false (eval iter X.env) use) Qf X.xe s := by
  have hfree : ∀ y ∈ scope.names, y.2 = .free → ∃ c, X.env.cells.lookup y.1 = some c := fun y hy e => (ok.free y hy e).elim (fun k => I.ok.has _ (.inl k)) fun k => I.ok.has _ (.inr k)
  refine wpAny_comprehension_free (use := use) rfl hs (closure_ok hfree) ok.kind (fun y hy e => by rw [ok.uniq y hy, e]) (thnT h1 (hi.run pins s σ H _ I h) fun xv s1 h1 hx => thnT h1 hx fun itv s2 h1 h2 => ?_)
  obtain ⟨it, fp, tn, J, H2, rfl, I2, T, st2, f2, q⟩ := h2
  refine wpAny_newObj_type (newEnv_comp ?_) (Nat.zero_le _)
  obtain ⟨D, hD⟩ : ∃ D, s2.heap.objs.size = D := ⟨_, rfl⟩
  have freshD : H2 D = none := I2.hok.fresh (Nat.le_of_eq hD)
  obtain ⟨W, ⟨m0, w0⟩, turn⟩ := q D freshD
  obtain ⟨s3, hs3⟩ : ∃ s3 : Shared, s3 = { s2 with heap := s2.heap.push { cls := .type "list", data := .seq ([] : List Value).toArray } } := ⟨_, rfl⟩
  have hp3 : s3.heap = s2.heap.push { cls := .type "list", data := .seq ([] : List Value).toArray } := by rw [hs3]
  have h13 : 1 ≤ s3.toks := by rw [hs3]; exact h1
  have up3 : ∀ b o, s2.heap.get? b = some o → s3.heap.get? b = some o := fun b o e => by rw [hp3]; exact Heap.get?_push_of_some _ e
  have I3 : Inv X pins σ (upd H2 D (.lst [])) s3 := by
    rw [hs3]
    refine I2.laid (t' := s2.toks) (fun b o e => Heap.get?_push_of_some _ e) (Nat.le_of_eq hD) ⟨Nat.zero_le _, [], 0, .nil, ?_⟩
    rw [← hD]
    exact Heap.get?_push_size _ rfl
  have old : ∀ b ∈ fp, b < s2.heap.objs.size := fun b hb => by
    obtain ⟨o, e, _⟩ := T.obj _ _ st2 b hb
    exact Heap.lt_size e
  have f3 : ∀ b ∈ fp, FpOk X pins (upd H2 D (.lst [])) b ∧ b < s3.heap.objs.size := fun b hb => by
    have lt := old b hb
    refine ⟨⟨?_, (f2 b hb).2⟩, by rw [hp3, Heap.size_push]; exact Nat.lt_succ_of_lt lt⟩
    rw [upd_ne (by rw [← hD]; exact Nat.ne_of_lt lt)]
    exact (f2 b hb).1
  have st3 : tn 0 s3.heap := T.keep _ _ _ st2 fun b _ o e => up3 b o e
  have IB := block_start I3 ok hN f3
  obtain ⟨C, hC⟩ : ∃ C, s3.heap.objs.size = C := ⟨_, rfl⟩
  obtain ⟨H3, hH3⟩ : ∃ H3, upd H2 D (.lst []) = H3 := ⟨_, rfl⟩
  rw [hH3] at I3 IB f3 w0
  rw [hC] at IB
  obtain ⟨cl, hcl⟩ : ∃ cl, cellsFrom (C + 1) scope.names (cloFrom X.env.cells scope.names []) = cl := ⟨_, rfl⟩
  rw [hcl] at IB
  obtain ⟨ce, hce⟩ : ∃ ce, compEnvC scope cl C X.env = ce := ⟨_, rfl⟩
  have pg := hg s3 H3 C cl fp
  have pt := ht s3 H3 C cl fp
  have pe := he s3 H3 C cl fp
  rw [hce] at IB pg pt pe
  have ceL : ce.locals = C := by rw [← hce]; rfl
  obtain ⟨s4, hs4⟩ : ∃ s4 : Shared, ({ s3 with heap := pushCells (s3.heap.push { cls := .type "dict", data := .dict #[] }) scope.names } : Shared) = s4 := ⟨_, rfl⟩
  have h14 : 1 ≤ s4.toks := by rw [← hs4]; exact h13
  have up4 : ∀ b o, s3.heap.get? b = some o → s4.heap.get? b = some o := fun b o e => by rw [← hs4]; exact pushCells_keeps _ _ _ _ (Heap.get?_push_of_some _ e)
  rw [hs4] at IB
  have goal : codeAny (model X.prog X.w) X.A (.compStart (.ListComp elt [⟨tg, iter, ifs, 0⟩] scope pos) 0 (.ref it) (.ref D) ce) (compPost (model X.prog X.w) X.A X.xe use Qf (.ref D) C) s4 := by
    have st4 : tn 0 s4.heap := T.keep _ _ _ st3 fun b _ o e => up4 b o e
    have stat : ∀ {σ' : L2.St} {H' : Hp} {s' : Shared}, Inv (X.blk s3 H3 scope ce fp) [] σ' H' s' → (∀ b ∈ fp, H' b = none) → ∀ b ∈ fp, FpOk (X.blk s3 H3 scope ce fp) [] H' b := fun {σ' H' s'} I' hn b hb =>
      ⟨hn b hb, (I'.ok.exf b hb).1, I'.ok.exfs b hb, .inl hb, fun x c e => (I'.ok.exf b hb).2 x c e, fun p hp => absurd (show p ∈ ([] : List (Addr × Obj)) ++ [] from hp) (by simp)⟩
    have loop : codeAny (model X.prog X.w) X.A (.compLoop (.ListComp elt [⟨tg, iter, ifs, 0⟩] scope pos) 0 (.ref it) (.ref D) ce) (compPost (model X.prog X.w) X.A X.xe use Qf (.ref D) C) s4 := by
      refine compLoop_any (fun n s' => 1 ≤ s'.toks ∧ ∃ i H', Inv (X.blk s3 H3 scope ce fp) [] (wipe σ (own.map (·.2))) H' s' ∧ tn i s'.heap ∧ (∀ b ∈ fp, H' b = none) ∧ W i n H') ?_ m0 ⟨h14, 0, H3, IB, st4, fun b hb => (f3 b hb).1.1, w0⟩
      rintro n s5 ⟨h15, i, H5, I5, st5, n5, w5⟩
      rcases turn i n H5 w5 with ⟨stop, qq⟩ | ⟨go, Nx, hNx, step⟩
      · refine thnF (T.done (X.blk s3 H3 scope ce fp) rfl rfl rfl hc i [] s5 _ H5 (fun _ _ => False) I5 (stat I5 n5) st5 stop) fun r s6 ⟨hr, I6⟩ => ?_
        subst hr
        have I7 : Inv X pins σ H5 s6 := I3.call' (ch := fp) I6.os I6.base I6.hok I6.bare fun b hb => ⟨(f3 b hb).1.2.2.2.1, (f3 b hb).1.2.1, (f3 b hb).1.2.2.2.2.1, (f3 b hb).1.2.2.2.2.2⟩
        have nC : H5 C = none := by rw [← ceL]; exact I6.free
        obtain ⟨m, hn, _⟩ := I6.loc
        have hn : s6.heap.Ns ce.locals m := hn
        rw [ceL] at hn
        exact fin D C s6 m H5 I7 qq hn (I3.fpOk (Nat.le_of_eq hC) nC)
      · refine thnFT h15 (T.item (X.blk s3 H3 scope ce fp) rfl rfl rfl hc i [] s5 _ H5 (fun _ _ => False) I5 (stat I5 n5) st5 go) fun r s6 h16 ⟨u, hr, h6⟩ => ?_
        subst hr
        refine thnFT h16 h6 fun _ s7 h17 ⟨x, H7, I7, r7, y7, st7, n7⟩ => ?_
        have J7 := I7.pinned (stat I7 n7) (T.obj _ _ st7)
        refine thnFT h17 (pg.run _ s7 _ H7 x u _ J7 r7 (step x H7 y7)) fun _ s8 h18 ⟨σ8, H8, I8, hw8, q8⟩ => ?_
        refine thnFT h18 (pt.run _ s8 σ8 H8 _ I8 q8) fun b s9 h19 ⟨H9, I9, q9⟩ => ?_
        have again : ∀ {s' : Shared} {H' : Hp}, 1 ≤ s'.toks → Inv (X.blk s3 H3 scope ce fp) ([] ++ pinsAt fp s7.heap) σ8 H' s' → Nx H' → ∃ m, m < n ∧ 1 ≤ s'.toks ∧ ∃ i H', Inv (X.blk s3 H3 scope ce fp) [] (wipe σ (own.map (·.2))) H' s' ∧ tn i s'.heap ∧ (∀ b ∈ fp, H' b = none) ∧ W i m H' := fun {s' H'} ht' I' nx => by
          obtain ⟨m', hm, w'⟩ := hNx H' nx
          have stay : ∀ b ∈ fp, ∀ o, s7.heap.get? b = some o → s'.heap.get? b = some o ∧ H' b = none := fun b hb o e =>
            ⟨(I'.pin (b, o) (List.mem_append_right _ (List.mem_append_right _ (mem_pinsAt hb e)))).1, (I'.pin (b, o) (List.mem_append_right _ (List.mem_append_right _ (mem_pinsAt hb e)))).2.1⟩
          refine ⟨m', hm, ht', i + 1, H', (I'.unpinned (pins := [])).weak (by rw [← hw8, wipe_length]) (fun j v e => by rw [← hw8] at e; exact (wipe_some e).1), T.keep _ _ _ st7 fun b hb o e => (stay b hb o e).1, fun b hb => ?_, w'⟩
          obtain ⟨o, e, _⟩ := T.obj _ _ st7 b hb
          exact (stay b hb o e).2
        cases b with
        | false =>
          simp only [Bool.false_eq_true, if_false] at q9 ⊢
          exact again h19 I9 q9
        | true =>
          simp only [if_true] at q9 ⊢
          refine thnFT h19 (pe _ s9 σ8 H9 _ h19 I9 q9) fun z s10 h20 ⟨yv, H10, I10, r10, acc, hD10, hz10, nx⟩ => ?_
          refine wpAny_with_toks h20 (app_ok (X := X.blk s3 H3 scope ce fp) I10 hD10 hz10 r10 fun s11 I11 h21 => again h21 I11 nx)
    exact codeAny_compStart_list loop (T.self X.A 0 _ _ _ st4 loop)
  subst hs4 hce hcl hC hs3 hD
  exact goal
theorem pet_lc (hc : X.calm = true) (hN : X.N.Nodup) (hi : PI X tg iter wi) (ok : BlkOk X.N X.env.scope scope own)
    (hg : ∀ (s : Shared) (H : Hp) (C : Addr) (cl : List (Str × Addr)) (fp : List Addr), PG (X.blk s H scope (compEnvC scope cl C X.env) fp) tg g)
    (ht : ∀ (s : Shared) (H : Hp) (C : Addr) (cl : List (Str × Addr)) (fp : List Addr), PTs (X.blk s H scope (compEnvC scope cl C X.env) fp) ifs tt)
    (he : ∀ (s : Shared) (H : Hp) (C : Addr) (cl : List (Str × Addr)) (fp : List Addr), PET (X.blk s H scope (compEnvC scope cl C X.env) fp) elt te) (hs : ∀ x, foldedSetIterable iter X.env x = pure x) :
    PET X (.ListComp elt [⟨tg, iter, ifs, 0⟩] scope pos) (tLc wi g tt te (own.map (·.2))) := fun pins s σ H Q h1 I h => by
  rw [eval_ListComp]
  refine lc_tok h1 hc hN I hi ok hg ht he hs h fun D C s' m H' I' q hn f => ⟨m, hn, fun h'' sb => ?_⟩
  obtain ⟨g0, g1, g2, g3, g4, g5⟩ := f
  exact ⟨.ref D, H', I'.turned (t' := s'.toks) (fun b o hb e => (sb.2 b hb).trans e) g0 g1 g3 g4 g5, rfl, q⟩
end
section
variable [CM]
variable {X : Cx}
theorem pe_addT {a b : Expr} {ta tb : TE} {z : Str} {j : Nat} {cp p1 pos : Pos} (ha : PE X a ta) (hb : PET X b tb) :
    PE X (.BinOp (.BinOp a .Add (.Constant (.str z) j cp) p1) .Add b pos) (tOp (rAdd X.K) (tOp (rAdd X.K) ta (tC (.str z))) tb) := by
  refine ⟨fun pins s σ H Q I h => wpAny_BinOp (wpAny_BinOp (thn (ha.run pins s σ H _ I h) fun v s1 ⟨x, H1, I1, r1, q1⟩ => Calls.Constant_str ?_))⟩
  refine thnT (n := 1) (s := { s1 with toks := s1.toks + 1 }) (Nat.le_add_left _ _) (opr_add pins { s1 with toks := s1.toks + 1 } σ H1 x (.str z) v (.str z s1.toks) _ (I1.tok _) r1 ⟨_, rfl⟩ q1) fun v2 s2 h2 ⟨x2, H2, I2, r2, q2⟩ => ?_
  refine thn (hb pins s2 σ H2 _ h2 I2 q2) fun u s3 ⟨y, H3, I3, r3, q3⟩ => ?_
  exact opr_add pins s3 σ H3 x2 y v2 u Q I3 r2 r3 q3
theorem pet_join {o e : Expr} {to te : TE} {apos pos : Pos} (ho : PE X o to) (he : PET X e te) (hs : starEach [e] X.env = [(false, eval e X.env)] := by rfl) (hbase : attributeBase o "join" X.env (eval o X.env) = eval o X.env := by rfl) (hline : (apos.endLine == pos.line) = true := by rfl) :
    PET X (.Call (.Attribute o "join" apos) [e] [] pos) (tM1 (fun x xs H Q => ∃ a p, ∃ ys : List Str, x = .str a ∧ xs = [.ref p] ∧ (SqL X.K H p (ys.map V.str) ∨ SqT X.K H p (ys.map V.str)) ∧
      (ys.map (·.length)).sum + ys.length * a.length ≤ 16777216 ∧ Q (.str (Txt.join a ys)) H) to te) := by
  intro pins s σ H Q h1 I h
  refine PySem.Call_method1 hbase hs hline (thnT h1 (ho.run pins s σ H _ I h) fun v s1 h2 ⟨x, H1, I1, r1, q1⟩ => ?_)
  obtain ⟨⟨a, rfl⟩, q1⟩ := q1
  obtain ⟨t, rfl⟩ := _root_.id r1
  refine ⟨"str", _, F.plainAttrs_str, F.slot_str_join, F.type_str_join, typeIs_str _ _ _, (fun _ e => nomatch e), Calls.callWith_builtin rfl (Calls.evalArgs_plain (Calls.spliced_cons ?_))⟩
  exact thn (he pins s1 σ H1 _ h2 I1 q1) fun u s2 ⟨y, H2, I2, r2, q2⟩ => Calls.spliced_nil (mt_join pins s2 σ H2 _ [y] _ [u] Q I2 r1 (.cons r2 .nil) q2)
def rRep (y : Str) : V → List V → Hp → VK → Prop := fun x xs H Q => ∃ a c : Str, x = .str a ∧ xs = [.str c] ∧ a.length + (a.length + 1) * c.length ≤ 16777216 ∧ Q (.str (Txt.replace a y c)) H
theorem pet_repl {o b : Expr} {to tb : TE} {y z : Str} {j0 j1 : Nat} {c0 c1 p1 apos pos : Pos} (nb : nbIn X.K = true) (hz : (z.length == 0) = false) (ho : PE X o to) (hb : PE X b tb)
    (hs : starEach [.Constant (.str y) j0 c0, .BinOp b .Add (.Constant (.str z) j1 c1) p1] X.env = [(false, eval (.Constant (.str y) j0 c0) X.env), (false, eval (.BinOp b .Add (.Constant (.str z) j1 c1) p1) X.env)] := by rfl)
    (hbase : attributeBase o "replace" X.env (eval o X.env) = eval o X.env := by rfl) (hline : (apos.endLine == pos.line) = true := by rfl) :
    PET X (.Call (.Attribute o "replace" apos) [.Constant (.str y) j0 c0, .BinOp b .Add (.Constant (.str z) j1 c1) p1] [] pos) (tM1 (rRep y) to (tOp (rAdd X.K) tb (tC (.str z)))) := by
  intro pins s σ H Q h1 I h
  refine PySem.Call_method2 hbase hs hline (thnT h1 (ho.run pins s σ H _ I h) fun v s1 h2 ⟨x, H1, I1, r1, q1⟩ => ?_)
  obtain ⟨⟨a, rfl⟩, q1⟩ := q1
  obtain ⟨t, rfl⟩ := _root_.id r1
  refine ⟨"str", _, F.plainAttrs_str, F.slot_str_replace, F.type_str_replace, typeIs_str _ _ _, (fun _ e => nomatch e), Calls.callWith_builtin rfl (Calls.evalArgs_plain (Calls.spliced_cons (Calls.Constant_str (Calls.spliced_cons ?_))))⟩
  refine wpAny_BinOp (thnT (n := s1.toks + 1) (s := { s1 with toks := s1.toks + 1 }) (Nat.le_refl _) (hb.run pins { s1 with toks := s1.toks + 1 } σ H1 _ (I1.tok _) q1) fun u s2 h3 ⟨g, H2, I2, r2, q2⟩ => Calls.Constant_str ?_)
  have fin : ∀ (c : Str) (tc k : Nat), (s1.toks : Nat) + 1 ≤ tc → (∃ a' c' : Str, V.str a = V.str a' ∧ [V.str c] = [V.str c'] ∧ a'.length + (a'.length + 1) * c'.length ≤ 16777216 ∧ Q (.str (Txt.replace a' y c')) H2) →
      wpAny (model X.prog X.w) X.A (call (.builtin "str.replace") [.str a t, .str y s1.toks, .str c tc]) (EP X pins σ Q) X.xe { s2 with toks := k } := by
    rintro c tc k hk ⟨a', c', e1, e2, hl, q⟩
    cases e1; cases e2
    have I3 : Inv X pins σ H2 { s2 with toks := k } := I2.tok k
    exact PySem.SC.replaceA (show s1.toks ≠ 0 by omega) (show tc ≠ 0 by omega) (show s1.toks ≠ tc by omega) hl (fun t' k' => ⟨.str (Txt.replace a y c), H2, I3.tok k', ⟨t', rfl⟩, q⟩) (nb_of I3.kIn nb I3.nolimit)
  rcases q2 with ⟨i, j, e1, e2, _⟩ | ⟨i, j, rfl, e2, hl, q2⟩ | q2 | q2
  · cases e2
  · cases e2
    obtain ⟨tg, rfl⟩ := r2
    refine P.add_str ?_
    by_cases hi : (i.length == 0) = true
    · rw [if_pos hi]
      have e : i ++ z = z := by
        obtain ⟨⟨l⟩⟩ := i
        have : l = [] := by cases l with | nil => rfl | cons _ _ => cases hi
        subst this
        obtain ⟨zc⟩ := z
        show Str.mk (#[] ++ zc) = Str.mk zc
        rw [Array.empty_append]
      rw [e] at q2
      exact Calls.spliced_nil (fin z s2.toks (s2.toks + 1) h3 q2)
    · rw [if_neg hi, if_neg (by rw [hz]; exact Bool.false_ne_true)]
      exact ⟨by show (i.cps ++ z.cps).size ≤ sizeLine; rw [Array.size_append]; exact hl, Calls.spliced_nil (fin (i ++ z) (s2.toks + 1) (s2.toks + 1 + 1) (by omega) q2)⟩
  · first | (obtain ⟨_, _, _, _, _, e2, _⟩ := q2; cases e2) | skip
  · first | (obtain ⟨_, _, _, _, _, e2, _⟩ := q2; cases e2) | skip
end
section
variable [CM]
variable {K : PySem.W.Frag} {c : VC} {Wx : WX} {X : Cx}
structure FEt (X : Cx) (c : VC) (Wx : WX) (e : Expr) (te : TE) (m : ME) : Prop where
  pe : PET X e te
  sim : SimE X.K c Wx te (vR m)
theorem FEt.of {e : Expr} {te : TE} {m : ME} (h : FE X c Wx e te m) : FEt X c Wx e te m := ⟨PET.of h.pe, h.sim⟩
theorem sim_weak {te : TE} {t t' : VT} (h : SimE K c Wx te t) (hw : ∀ env Q QX, t' env Q QX → t env Q QX) : SimE K c Wx te t' := fun f Hb env σ H Q QX Q' R q px k => h f Hb env σ H Q QX Q' R (hw _ _ _ q) px k
theorem sim_add {ta tb : TE} {ma mb : ME} (ha : SimE K c Wx ta (vR ma)) (hb : SimE K c Wx tb (vR mb)) : SimE K c Wx (tOp (rAdd K) ta tb) (vR (mOp fAdd ma mb)) := sim_weak (sim_op ops_add ha hb) fun _ _ _ h => po_op opf_add h
theorem sim_cs {x : Str} : SimE K c Wx (tC (.str x)) (vR (mC (.str x))) := sim_weak (t := vC (.str x)) (sim_c fun _ => .str x) fun env Q QX h => h
theorem fe_addT {a b : Expr} {ta tb : TE} {ma mb : ME} {z : Str} {j : Nat} {cp p1 pos : Pos} (ha : FE X c Wx a ta ma) (hb : FEt X c Wx b tb mb) :
    FE X c Wx (.BinOp (.BinOp a .Add (.Constant (.str z) j cp) p1) .Add b pos) (tOp (rAdd X.K) (tOp (rAdd X.K) ta (tC (.str z))) tb) (mOp fAdd (mOp fAdd ma (mC (.str z))) mb) :=
  ⟨pe_addT ha.pe hb.pe, sim_add (sim_add ha.sim sim_cs) hb.sim⟩
theorem fet_join {o e : Expr} {to te : TE} {mo me : ME} {apos pos : Pos} (ho : FE X c Wx o to mo) (he : FEt X c Wx e te me) (hs : starEach [e] X.env = [(false, eval e X.env)] := by rfl) (hbase : attributeBase o "join" X.env (eval o X.env) = eval o X.env := by rfl) (hline : (apos.endLine == pos.line) = true := by rfl) :
    FEt X c Wx (.Call (.Attribute o "join" apos) [e] [] pos) (tM1 (fun x xs H Q => ∃ a p, ∃ ys : List Str, x = .str a ∧ xs = [.ref p] ∧ (SqL X.K H p (ys.map V.str) ∨ SqT X.K H p (ys.map V.str)) ∧
      (ys.map (·.length)).sum + ys.length * a.length ≤ 16777216 ∧ Q (.str (Txt.join a ys)) H) to te) (mSM fJoin mo me) := by
  refine ⟨pet_join ho.pe he.pe hs hbase hline, ?_⟩
  let e0 : Expr := .Name "x" pos
  have hd : ∀ (t : TE), PE { X with env := { X.env with scope := { X.env.scope with kind := .module } } } e0 t := fun t => ⟨fun pins s σ H Q I h => by
    have := I.ok.kind
    cases this⟩
  have h1 : FE { X with env := { X.env with scope := { X.env.scope with kind := .module } } } c Wx e0 to mo := ⟨hd _, ho.sim⟩
  have h2 : FE { X with env := { X.env with scope := { X.env.scope with kind := .module } } } c Wx e0 te me := ⟨hd _, he.sim⟩
  exact (fe_join (apos := { pos with endLine := pos.line }) (pos := pos) h1 h2 rfl rfl (by simp)).sim
noncomputable def replS (y a z : Str) : Option W := cif (a.length + (a.length + 1) * z.length ≤ 16777216) (some (.val (.str (Txt.replace a y z)))) none
@[simp] theorem replS_of {y a z : Str} (h : a.length + (a.length + 1) * z.length ≤ 16777216) : replS y a z = some (.val (.str (Txt.replace a y z))) := cif_pos h
theorem sim_repl {to te : TE} {mo me : ME} {y : Str} (ho : SimE K c Wx to (vR mo)) (he : SimE K c Wx te (vR me)) : SimE K c Wx (tM1 (rRep y) to te) (vR (mSS (replS y) mo me)) := by
  refine sim_weak (t := fun env Q QX => vR mo env (fun w1 env1 => strW w1 fun a => vR me env1 (fun w2 env2 => strW w2 fun b => a.length + (a.length + 1) * b.length ≤ 16777216 ∧ Q (.val (.str (Txt.replace a y b))) env2) QX) QX) ?_ fun env Q QX h => ?_
  · intro f Hb env σ H Q QX Q' R q px k
    refine ho f Hb env σ H _ QX _ R q px fun w1 env1 v1 H1 Hb1 s1 R1 r1 q1 => ?_
    obtain ⟨a, rfl, q1⟩ := strW_of q1
    have r1 : Rp K Hb1 (.str a) v1 := r1
    cases r1
    refine ⟨⟨_, rfl⟩, ?_⟩
    refine he f Hb1 env1 σ H1 _ QX _ R1 q1 (px.mn s1) fun w2 env2 v2 H2 Hb2 s2 R2 r2 q2 => ?_
    obtain ⟨b, rfl, h1, q2⟩ := strW_of q2
    have r2 : Rp K Hb2 (.str b) v2 := r2
    cases r2
    exact ⟨a, b, rfl, rfl, h1, k (.val (.str _)) _ _ _ _ (s1.trans s2) R2 (.str _) q2⟩
  · refine po_mono (po_ss h) fun w e h1 => ?_
    obtain ⟨a, rfl, h1⟩ := strW_of h1
    refine po_mono h1 fun w e h2 => ?_
    obtain ⟨b, rfl, w, h3, h2⟩ := strW_of h2
    unfold replS at h3
    by_cases hz : a.length + (a.length + 1) * b.length ≤ 16777216
    · rw [cif_pos hz] at h3; cases h3; exact ⟨hz, h2⟩
    · rw [cif_neg hz] at h3; cases h3
theorem fet_repl {o b : Expr} {to tb : TE} {mo mb : ME} {y z : Str} {j0 j1 : Nat} {c0 c1 p1 apos pos : Pos} (nb : nbIn X.K = true) (ho : FE X c Wx o to mo) (hb : FE X c Wx b tb mb) (hz : (z.length == 0) = false := by decide +kernel)
    (hs : starEach [.Constant (.str y) j0 c0, .BinOp b .Add (.Constant (.str z) j1 c1) p1] X.env = [(false, eval (.Constant (.str y) j0 c0) X.env), (false, eval (.BinOp b .Add (.Constant (.str z) j1 c1) p1) X.env)] := by rfl)
    (hbase : attributeBase o "replace" X.env (eval o X.env) = eval o X.env := by rfl) (hline : (apos.endLine == pos.line) = true := by rfl) :
    FEt X c Wx (.Call (.Attribute o "replace" apos) [.Constant (.str y) j0 c0, .BinOp b .Add (.Constant (.str z) j1 c1) p1] [] pos) (tM1 (rRep y) to (tOp (rAdd X.K) tb (tC (.str z)))) (mSS (replS y) mo (mOp fAdd mb (mC (.str z)))) :=
  ⟨pet_repl nb hz ho.pe hb.pe hs hbase hline, sim_repl ho.sim (sim_add hb.sim sim_cs)⟩
theorem FEt.re {e : Expr} {t t' : TE} {m : ME} (h : FEt X c Wx e t m) (e' : t' = t) : FEt X c Wx e t' m := e' ▸ h
structure BlkT (X : Cx) (c : VC) (scope : Scope) (own : List (Str × Nat)) (ss : List Nat) (tg elt : Expr) (ifs : List Expr) (g : TG) (vg : GM) (tt : TT) (vt : MT) (te : TE) (ve : ME) : Prop where
  ok : BlkOk X.N X.env.scope scope own
  sub : ∀ j ∈ ss, j ∈ own.map (·.2)
  g : ∀ (s : Shared) (H : Hp) (C : Addr) (cl : List (Str × Addr)) (fp : List Addr), FG (X.blk s H scope (compEnvC scope cl C X.env) fp) c ss tg g vg
  t : ∀ (s : Shared) (H : Hp) (C : Addr) (cl : List (Str × Addr)) (fp : List Addr), FTs (X.blk s H scope (compEnvC scope cl C X.env) fp) c W0 ifs tt vt
  e : ∀ (s : Shared) (H : Hp) (C : Addr) (cl : List (Str × Addr)) (fp : List Addr), FEt (X.blk s H scope (compEnvC scope cl C X.env) fp) c W0 elt te ve
theorem fet_lc {vs : List Nat} {scope : Scope} {own : List (Str × Nat)} {ss : List Nat} {tg elt iter : Expr} {ifs : List Expr} {g : TG} {vg : GM} {tt : TT} {vt : MT} {te : TE} {ve : ME} {wi : TI} {vi : MI} {pos : Pos} (nd : X.N.Nodup) (hi : FI X c Wx tg iter wi vi) (B : BlkT X c scope own ss tg elt ifs g vg tt vt te ve) (hc : X.calm = true := by rfl) (hs : ∀ x, foldedSetIterable iter X.env x = pure x := by intro _; rfl) (hvs : own.map (·.2) = vs := by rfl) :
    FEt X c Wx (.ListComp elt [⟨tg, iter, ifs, 0⟩] scope pos) (tLc wi g tt te (own.map (·.2))) (mLc c.fx vi vg vt ve vs) := by
  subst hvs
  refine ⟨pet_lc hc nd hi.pi B.ok (fun s H C cl fp => (B.g s H C cl fp).pg) (fun s H C cl fp => (B.t s H C cl fp).pts) (fun s H C cl fp => (B.e s H C cl fp).pe) hs, ?_⟩
  exact sim_weak (sim_lc B.sub hi.sim (B.g {} (fun _ => none) 0 [] []).sim (B.t {} (fun _ => none) 0 [] []).sim (B.e {} (fun _ => none) 0 [] []).sim) fun env Q QX h => po_lc h
end
end VL
set_option Elab.async false
set_option linter.all false
set_option maxRecDepth 100000
set_option maxHeartbeats 4000000
namespace VL
open PySem PySem.Spec PyProof.Rows L2
variable [CM]
section
variable {K : PySem.W.Frag} {c : VC} {Wx : WX} {X : Cx}
def ownL (j : Nat) (e : Env) : Option (List D) := match e[j]? with
  | some (some (.own (.lst ds))) => some ds
  | _ => none
theorem ownL_some {j : Nat} {e : Env} {ds : List D} (h : ownL j e = some ds) : e[j]? = some (some (.own (.lst ds))) := by
  unfold ownL at h
  split at h
  · rename_i ds' h1; cases h; exact h1
  · cases h
def loopOV (j : Nat) (g : VG) (b : VS) (DV : VEnds) (n : Nat) : Nat → Env → Prop
  | 0, env => (∃ ds, ownL j env = some ds ∧ ds.length = n) ∧ DV.nx env
  | r + 1, env => ∃ ds d, ownL j env = some ds ∧ ds.length = n ∧ ds[n - (r + 1)]? = some d ∧ g d env fun env1 => b { DV with nx := loopOV j g b DV n r, ct := loopOV j g b DV n r, bk := DV.nx } env1
@[simp] def vForO (j : Nat) (g : VG) (b : VS) : VS := fun DV env => ∃ ds, ownL j env = some ds ∧ loopOV j g b DV ds.length ds.length env
def loopO (j : Nat) (g : GM) (b : MS) (n : Nat) : Nat → Env → SR
  | 0, e => match ownL j e with
    | some ds => if ds.length = n then .nx e else .no
    | none => .no
  | r + 1, e => match ownL j e with
    | some ds => if ds.length = n then (match ds[n - (r + 1)]? with
      | some d => trn (loopO j g b n r) (turnM g b d e)
      | none => .no) else .no
    | none => .no
def forO (j : Nat) (g : GM) (b : MS) (e : Env) : Option (List D) → SR
  | some ds => loopO j g b ds.length ds.length e
  | none => .no
@[simp] def mForO (j : Nat) (g : GM) (b : MS) (e : Env) : SR := forO j g b e (ownL j e)
end
end VL
set_option Elab.async false
set_option linter.all false
set_option maxRecDepth 100000
set_option maxHeartbeats 4000000
namespace VL
open PySem PySem.Spec PyProof.Rows L2
variable [CM]
section
variable {K : PySem.W.Frag} {c : VC} {Wx : WX} {X : Cx}
def forV (j : Nat) (g : GM) (b : MS) (e : Env) : Option (List D) → SR
  | some ds => loopO j g b ds.length ds.length e
  | none => mFor (mIt (mName j)) g b e
@[simp] theorem forV_c1 (j g b e ds) : forV j g b e (some ds) = loopO j g b ds.length ds.length e := rfl
@[simp] theorem forV_c2 (j g b e) : forV j g b e none = mFor (mIt (mName j)) g b e := rfl
@[simp] def mForV (j : Nat) (g : GM) (b : MS) (e : Env) : SR := forV j g b e (ownL j e)
end
end VL
set_option Elab.async false
set_option linter.all false
set_option maxRecDepth 100000
set_option maxHeartbeats 4000000
namespace VL
open PySem PySem.Spec PyProof.Rows L2
variable [CM]
section
variable {K : PySem.W.Frag} {c : VC} {Wx : WX} {X : Cx}
def compFO (j : Nat) (ds0 : List D) (vg : VG) (vt : VTT) (ve : VT) (vs : List Nat) (Q : List D → Env → Prop) : List D → List D → Env → Prop
  | [], acc, env => ownL j env = some ds0 ∧ Q acc env
  | d :: ds, acc, env => ownL j env = some ds0 ∧ vg d env fun env1 => vt env1 (fun b env2 => if b = true then ve env2 (fun w env3 => fz w env3 fun d' env4 => acc.length < sizeLine ∧ compFO j ds0 vg vt ve vs Q ds (acc ++ [d']) (wipeE env4 vs)) noX else compFO j ds0 vg vt ve vs Q ds acc (wipeE env2 vs)) noX
def vLcO (c : VC) (j : Nat) (vg : VG) (vt : VTT) (ve : VT) (vs : List Nat) : VT := fun env Q QX => ∃ ds, ownL j env = some ds ∧ j ∉ vs ∧ okVs c vs env ∧ compFO j ds vg vt ve vs (fun acc env2 => Q (.tmp (.lst acc)) (restE env env2 vs)) ds [] (wipeE env vs)
theorem sim_lcO {j : Nat} {g : TG} {vg : VG} {tt : TT} {vt : VTT} {te : TE} {ve : VT} {ss vs : List Nat} (hss : ∀ j ∈ ss, j ∈ vs) (hg : SimG K c ss g vg) (ht : SimT K c W0 tt vt) (he : SimE K c W0 te ve) : SimE K c Wx (tLc (iSeq K (tVar j)) g tt te vs) (vLcO c j vg vt ve vs) := by
  intro f Hb env σ H Q QX Q' R q px k
  obtain ⟨items, h0, hjv, hv, q1⟩ := q
  obtain ⟨a, ha, hba, hfa, vs0, hH0, hr0⟩ := R.own (ownL_some h0)
  have hil : items.length = vs0.length := hr0.length.symm
  refine ⟨.ref a, ha, .inl ⟨a, rfl, ⟨vs0, .inl (.inl hH0)⟩, ?_⟩⟩
  intro D nD
  have Rw := (R.wipe fun v hv' => (hv v hv').1).put (o := .lst []) nD
  have cur : ∀ {env1 : Env} {H1 Hb1 : Hp} {accV : List V}, Rl K c (f.put D (.lst accV)) Hb1 env1 (L2.wipe σ vs) H1 → ownL j env1 = some items → ∃ us, H1 a = some (.lst us) ∧ RpL K Hb1 items us := fun {env1 H1 Hb1 accV} R1 h1 => by
    obtain ⟨a1, ha1, _, _, us, hH, hr⟩ := R1.own (ownL_some h1)
    rw [wipe_out hjv, ha] at ha1
    cases ha1
    exact ⟨us, hH, hr⟩
  refine ⟨fun i m H' => ∃ env' Hb' acc accV, Same Hb Hb' ∧ Rl K c (f.put D (.lst accV)) Hb' env' (L2.wipe σ vs) H' ∧ RpL K Hb' acc accV ∧ m = items.length - i ∧ i ≤ items.length ∧
    compFO j items vg vt ve vs (fun acc env2 => Q (.tmp (.lst acc)) (restE env env2 vs)) (items.drop i) acc env', ⟨items.length, _, Hb, [], [], Same.refl _, Rw, .nil, by simp, Nat.zero_le _, q1⟩, ?_⟩
  rintro i m H2 ⟨env2, Hb2, acc, accV, s2, R2, ra, rfl, hi2, q2⟩
  by_cases hlt : i < items.length
  · rw [List.drop_eq_getElem_cons hlt] at q2
    obtain ⟨o2, q2⟩ := q2
    obtain ⟨us, hH, hr⟩ := cur R2 o2
    obtain ⟨v, hv1, hrv⟩ := hr.get (List.getElem?_eq_getElem hlt)
    refine .inr ⟨⟨us, v, .inl (.inl hH), hv1⟩, fun H' => ∃ env' Hb' acc accV, Same Hb Hb' ∧ Rl K c (f.put D (.lst accV)) Hb' env' (L2.wipe σ vs) H' ∧ RpL K Hb' acc accV ∧
      compFO j items vg vt ve vs (fun acc env2 => Q (.tmp (.lst acc)) (restE env env2 vs)) (items.drop (i + 1)) acc env', fun H' z => ?_, fun x H3 hy => ?_⟩
    · obtain ⟨env', Hb', a', av, z1, z2, z3, z4⟩ := z
      exact ⟨items.length - (i + 1), by omega, env', Hb', a', av, z1, z2, z3, rfl, hlt, z4⟩
    · obtain ⟨rfl, hy⟩ := hy
      have hyv := hy us (.inl (.inl hH))
      rw [hv1] at hyv
      cases hyv
      refine hg _ Hb2 env2 _ H3 _ v _ _ R2 hrv q2 fun env4 σ4 H4 Hb4 s4 R4 n4 q4 => ?_
      have hw : L2.wipe σ4 vs = L2.wipe σ vs := by
        rw [← wipe_wipe (σ := σ)]
        exact wipe_eq n4.1 fun j hj => n4.2 j fun z => hj (hss j z)
      refine ⟨hw, ?_⟩
      refine ht _ Hb4 env4 σ4 H4 _ noX _ R4 q4 px0 fun b env5 H5 Hb5 s5 R5 q5 => ?_
      cases b with
      | true =>
        rw [if_pos rfl] at q5 ⊢
        refine he _ Hb5 env5 σ4 H5 _ noX _ R5 q5 px0 fun w env6 v6 H6 Hb6 s6 R6 r6 q6 => ?_
        obtain ⟨d', env7, Hb7, s7, R7, r7, hz, q7⟩ := R6.fz r6 q6
        obtain ⟨hD, _⟩ := R7.atD
        have ss := (((s4).trans s5).trans s6).trans s7
        refine ⟨accV, hD, by rw [ra.length]; exact hz, wipeE env7 vs, Hb7, acc ++ [d'], accV ++ [v6], s2.trans ss, ?_, (ra.mn ss).app (.one r7), q7⟩
        rw [← hw]
        exact (R7.wipe fun v hv' => (hv v hv').1).reput
      | false =>
        rw [if_neg Bool.false_ne_true] at q5 ⊢
        have ss := s4.trans s5
        refine ⟨wipeE env5 vs, Hb5, acc, accV, s2.trans ss, ?_, ra.mn ss, q5⟩
        rw [← hw]
        exact R5.wipe fun v hv' => (hv v hv').1
  · have hi3 : i = items.length := by omega
    rw [hi3, List.drop_length] at q2
    obtain ⟨o2, q2⟩ := q2
    obtain ⟨us, hH, hr⟩ := cur R2 o2
    refine .inl ⟨⟨us, .inl (.inl hH), by have := hr.length; omega⟩, ?_⟩
    have q2 : Q (.tmp (.lst acc)) (restE env env2 vs) := q2
    obtain ⟨hD, hbD⟩ := R2.atD
    have fD : f.Fr D = none := R.frm.free nD
    have R3 := R2.unput fD
    have ownD : ∀ {j : Nat} {oc : OC}, (restE env env2 vs)[j]? = some (some (.own oc)) → j ∉ vs ∧ env2[j]? = some (some (.own oc)) := fun {j oc} e => by
      rcases restE_get _ _ _ _ _ e with ⟨h1, h2⟩ | h
      · exact ((hv j h1).2 oc h2).elim
      · exact h
    have R4 : Rl K c f Hb2 (restE env env2 vs) σ H2 := by
      refine ⟨by rw [restE_len, ← R3.len, wipe_length], fun {j d} e => ?_, fun {j oc} e => ?_, fun {i j o1 o2 b} e1 e2 e3 e4 => ?_, R3.sub, R3.frm, R3.frb, R3.tab, R.fix, R3.xv⟩
      · rcases restE_get _ _ _ _ _ e with ⟨h1, h2⟩ | ⟨h1, h2⟩
        · obtain ⟨v, h3, h4⟩ := R.val h2
          exact ⟨v, h3, h4.mn s2⟩
        · obtain ⟨v, h3, h4⟩ := R3.val h2
          rw [wipe_out h1] at h3
          exact ⟨v, h3, h4⟩
      · obtain ⟨h1, h2⟩ := ownD e
        obtain ⟨a, h3, h4⟩ := R3.own h2
        rw [wipe_out h1] at h3
        exact ⟨a, h3, h4⟩
      · obtain ⟨h1, h2⟩ := ownD e1
        obtain ⟨h3, h4⟩ := ownD e2
        exact R3.inj h2 h4 (by rw [wipe_out h1]; exact e3) (by rw [wipe_out h3]; exact e4)
    refine k (.tmp (.lst acc)) _ _ _ _ s2 R4 ⟨D, rfl, hbD, fD, ⟨accV, hD, ra⟩, fun j oc e z => ?_⟩ q2
    obtain ⟨h1, h2⟩ := ownD e
    obtain ⟨a, h3, _, h5, _⟩ := R2.own h2
    rw [wipe_out h1, z] at h3
    cases h3
    have h5 : upd f.Fr D (.lst accV) D = none := h5
    rw [upd_same] at h5; cases h5
noncomputable def gd {σ α : Type} (p : Prop) (x : R σ α) : R σ α := open Classical in if p then x else .no
theorem gd_of {σ α : Type} {p : Prop} (h : p) (x : R σ α) : gd p x = x := by unfold gd; rw [if_pos h]
theorem po_gd {α : Type} {p : Prop} {x : R Env α} {Q : α → Env → Prop} {QX : VX} (h : (gd p x).po Q QX) : p ∧ x.po Q QX := by
  unfold gd at h
  by_cases hp : p
  · rw [if_pos hp] at h; exact ⟨hp, h⟩
  · rw [if_neg hp] at h; exact h.elim
noncomputable def compO (j : Nat) (ds0 : List D) (g : GM) (t : MT) (el : ME) (vs : List Nat) : List D → Env → R Env (List D)
  | [], e => gd (ownL j e = some ds0) (.ok [] e)
  | d :: ds, e => gd (ownL j e = some ds0) (sq (compO j ds0 g t el vs ds) consO (turnC g t el vs d e))
theorem po_compO {j : Nat} {ds0 : List D} {g : GM} {t : MT} {el : ME} {vs : List Nat} {Q : List D → Env → Prop} : ∀ {ds : List D} {e : Env} {acc : List D} {QX : VX}, (compO j ds0 g t el vs ds e).po (fun r e2 => acc.length + r.length ≤ sizeLine ∧ Q (acc ++ r) e2) noX → compFO j ds0 (vGm g) (vR t) (vR el) vs Q ds acc e
  | [], e, acc, QX, h => by
    obtain ⟨h0, h⟩ := po_gd h
    have h : acc.length + 0 ≤ sizeLine ∧ Q (acc ++ []) e := h
    rw [List.append_nil] at h
    exact ⟨h0, h.2⟩
  | d :: ds, e, acc, QX, h => by
    obtain ⟨h0, h⟩ := po_gd h
    refine ⟨h0, ?_⟩
    have h : (sq (compO j ds0 g t el vs ds) consO (turnC1 t el vs (g d e))).po (fun r e2 => acc.length + r.length ≤ sizeLine ∧ Q (acc ++ r) e2) noX := h
    show poO _ (g d e)
    cases hA : g d e with
    | none => rw [hA] at h; exact h
    | some e1 =>
      rw [hA] at h
      have h : (sq (compO j ds0 g t el vs ds) consO (ifC el vs (t e1))).po (fun r e2 => acc.length + r.length ≤ sizeLine ∧ Q (acc ++ r) e2) noX := h
      show (t e1).po _ noX
      cases hB : t e1 with
      | ex C fs s => rw [hB] at h; exact h
      | no => rw [hB] at h; exact h
      | ok b e2 =>
        rw [hB] at h
        cases b with
        | false =>
          have h := po_mp (g := consO none) (r := compO j ds0 g t el vs ds (wipeE e2 vs)) h
          exact po_compO (QX := noX) h
        | true =>
          have h : (sq (compO j ds0 g t el vs ds) consO (elK vs (bd fzM (el e2)))).po (fun r e2 => acc.length + r.length ≤ sizeLine ∧ Q (acc ++ r) e2) noX := h
          show (el e2).po _ noX
          cases hC : el e2 with
          | ex C fs s => rw [hC] at h; exact h
          | no => rw [hC] at h; exact h
          | ok w e3 =>
            rw [hC] at h
            have h : (sq (compO j ds0 g t el vs ds) consO (elK vs (fzM w e3))).po (fun r e2 => acc.length + r.length ≤ sizeLine ∧ Q (acc ++ r) e2) noX := h
            show fz w e3 fun d' env4 => acc.length < sizeLine ∧ compFO j ds0 (vGm g) (vR t) (vR el) vs Q ds (acc ++ [d']) (wipeE env4 vs)
            refine po_fz (QX := noX) ?_
            cases hD : fzM w e3 with
            | ex C fs s => rw [hD] at h; exact h
            | no => rw [hD] at h; exact h
            | ok d' e4 =>
              rw [hD] at h
              have h := po_mp (g := consO (some d')) (r := compO j ds0 g t el vs ds (wipeE e4 vs)) h
              have key : ∀ r e2, (acc.length + (consO (some d') r).length ≤ sizeLine ∧ Q (acc ++ consO (some d') r) e2) → ((acc ++ [d']).length + r.length ≤ sizeLine ∧ Q ((acc ++ [d']) ++ r) e2) := fun r e2 ⟨h1, h2⟩ => by
                have h1 : acc.length + (d' :: r).length ≤ sizeLine := h1
                have h2 : Q (acc ++ (d' :: r)) e2 := h2
                simp only [List.length_cons, List.length_append, List.length_nil] at h1 ⊢
                exact ⟨by omega, by rw [List.append_assoc]; exact h2⟩
              refine ⟨?_, po_compO (QX := noX) (po_mono h key)⟩
              cases hE : compO j ds0 g t el vs ds (wipeE e4 vs) with
              | ex C fs s => rw [hE] at h; exact False.elim h
              | no => rw [hE] at h; exact False.elim h
              | ok r e5 =>
                rw [hE] at h
                have h1 : acc.length + (d' :: r).length ≤ sizeLine := h.1
                simp only [List.length_cons] at h1
                omega
noncomputable def lcO (j : Nat) (fx : List Nat) (g : GM) (t : MT) (el : ME) (vs : List Nat) (e : Env) : Option (List D) → R Env W
  | some ds => gd (j ∉ vs) (lc2 e vs (compO j ds g t el vs ds (wipeE e vs)) (okE fx vs e))
  | none => mLc fx (mIt (mName j)) g t el vs e
noncomputable def mLcO (j : Nat) (fx : List Nat) (g : GM) (t : MT) (el : ME) (vs : List Nat) (e : Env) : R Env W := lcO j fx g t el vs e (ownL j e)
theorem po_lcO {j : Nat} {g : GM} {t : MT} {el : ME} {vs : List Nat} {env : Env} {Q : VQ} {QX : VX} {ds : List D} (ho : ownL j env = some ds) (h : vR (mLcO j c.fx g t el vs) env Q QX) : vLcO c j (vGm g) (vR t) (vR el) vs env Q QX := by
  have h : (lcO j c.fx g t el vs env (ownL j env)).po Q QX := h
  rw [ho] at h
  obtain ⟨hj, h⟩ := po_gd h
  refine ⟨ds, ho, hj, ?_⟩
  cases hK : okE c.fx vs env with
  | false => rw [hK] at h; exact h.elim
  | true =>
    rw [hK] at h
    have h : (lc3 env vs (compO j ds g t el vs ds (wipeE env vs))).po Q QX := h
    refine ⟨okE_of hK, po_compO (QX := noX) ?_⟩
    cases hC : compO j ds g t el vs ds (wipeE env vs) with
    | ex C fs s => rw [hC] at h; exact h.elim
    | no => rw [hC] at h; exact h.elim
    | ok r e2 =>
      rw [hC] at h
      have h : (opR (restE env e2 vs) (lim r.length (.tmp (.lst r)))).po Q QX := h
      cases h1 : lim r.length (W.tmp (.lst r)) with
      | none => rw [h1] at h; exact h.elim
      | some w =>
        rw [h1] at h
        obtain ⟨h2, rfl⟩ := lim_some h1
        exact ⟨by simpa using h2, h⟩
theorem fe_lcO {j : Nat} {x : Str} {p : Pos} {vs : List Nat} {scope : Scope} {own : List (Str × Nat)} {ss : List Nat} {tg elt : Expr} {ifs : List Expr} {g : TG} {vg : GM} {tt : TT} {vt : MT} {te : TE} {ve : ME} {pos : Pos} (nd : X.N.Nodup) (B : FBlk X c scope own ss tg elt ifs g vg tt vt te ve)
    (hN : X.N[j]? = some x := by rfl) (hv : Vis X.env.scope x := by first | exact Or.inl rfl | exact Or.inr (Or.inl rfl) | exact Or.inr (Or.inr rfl)) (hd : (x == ("__debug__" : Str)) = false := by decide) (hcd : (x == ("__classdict__" : Str)) = false := by decide)
    (hc : X.calm = true := by rfl) (hs : ∀ y, foldedSetIterable (.Name x p) X.env y = pure y := by intro _; rfl) (hvs : own.map (·.2) = vs := by rfl) :
    FE X c Wx (.ListComp elt [⟨tg, .Name x p, ifs, 0⟩] scope pos) (tLc (iSeq X.K (tVar j)) g tt te (own.map (·.2))) (mLcO j c.fx vg vt ve vs) := by
  subst hvs
  have A := fe_lc (c := c) (Wx := Wx) (pos := pos) nd (fi_seq (tg := tg) (fe_name j hN hv hd hcd)) B hc hs rfl
  refine ⟨A.pe, fun f Hb env σ H Q QX Q' R q px k => ?_⟩
  cases ho : ownL j env with
  | none =>
    have q : (lcO j c.fx vg vt ve (own.map (·.2)) env (ownL j env)).po Q QX := q
    rw [ho] at q
    exact A.sim f Hb env σ H Q QX Q' R q px k
  | some ds =>
    exact sim_lcO B.sub (B.g {} (fun _ => none) 0 [] []).sim (B.t {} (fun _ => none) 0 [] []).sim (B.e {} (fun _ => none) 0 [] []).sim f Hb env σ H Q QX Q' R (po_lcO ho q) px k
end
theorem compO_map {ι : Type} {j : Nat} {ds0 : List D} {g : GM} {t : MT} {el : ME} {vs : List Nat} {e : Env} (ho : ownL j e = some ds0) (en : ι → D) (f : ι → D) : ∀ xs : List ι, (∀ x ∈ xs, turnC g t el vs (en x) e = .ok (some (f x)) e) → compO j ds0 g t el vs (xs.map en) e = .ok (xs.map f) e
  | [], _ => gd_of ho _
  | x :: xs, h => by
    rw [List.map_cons]
    show gd _ (sq _ consO (turnC g t el vs (en x) e)) = _
    rw [gd_of ho, h x (List.mem_cons_self ..)]
    show mp (consO (some (f x))) (compO j ds0 g t el vs (xs.map en) e) = _
    rw [compO_map ho en f xs fun y hy => h y (List.mem_cons_of_mem _ hy)]
    rfl
end VL
set_option Elab.async false
set_option linter.all false
set_option maxRecDepth 100000
set_option maxHeartbeats 4000000
namespace VL
open PySem PySem.Spec PyProof.Rows L2
noncomputable def B_law_a_condition_1 : MS := (mKill [4, 5] (mSeq (mSet 5 (mOp fIx (mOp fIx (mName 2) (mC (.int 1))) (mCall F_law_draw (mCons (mName 0) (mCons (mCB fLen (mCons (mOp fIx (mName 2) (mC (.int 1))) mNil)) mNil)))))
    (mExpr (mApp (mName 3) (mCall F_law_prefix (mCons (mName 5) (mCons (mOp fAdd (mC (.int 1)) (mCall F_law_draw (mCons (mName 0) (mCons (mCall F_law_level (mCons (mName 5) mNil)) mNil)))) mNil)))))))
noncomputable def F_law_a_condition : FN := fnM 2 6 [0] (mSeq (mSet 2 (mOp fIx (mName 1) (mCall F_law_draw (mCons (mName 0) (mCons (mCB fLen (mCons (mName 1) mNil)) mNil)))))
    (mSeq (mOwn 3 (mLst mNil))
    (mSeq (mFor (mRng (mCons (mOp fAdd (mC (.int 1)) (mCall F_law_draw (mCons (mName 0) (mCons (mC (.int 3)) mNil)))) mNil)) (gmName 4) B_law_a_condition_1)
    (mRet [0] (mTup (mCons (mOp fIx (mName 2) (mC (.int 0))) (mCons (mCB fTuple (mCons (mName 3) mNil)) mNil)))))))
noncomputable def F_law_tree_b (R : FN) : FN := fnM 3 9 [0] (mSeq (mSet 3 (mCall F_law_draw (mCons (mName 0) (mCons (mC (.int 7)) mNil))))
    (mSeq (mKill [4, 5, 6] (mIfS (mOrT (mTst (mOp fLe (mName 2) (mC (.int 0)))) (mTst (mOp fLt (mName 3) (mC (.int 2))))) (mSeq (mOwn 4 (mLst mNil))
    (mSeq (mFor (mRng (mCons (mCall F_law_draw (mCons (mName 0) (mCons (mC (.int 4)) mNil))) mNil)) (gmName 5) (mKill [5, 6] (mSeq (mSet 6 (mCall F_law_a_condition (mCons (mName 0) (mCons (mName 1) mNil))))
    (mIfS (mTst (mOp (fIn true) (mOp fIx (mName 6) (mC (.int 0))) (mLcO 4 [0] (gmName 7) mYes (mOp fIx (mName 7) (mC (.int 0))) [7]))) (mExpr (mApp (mName 4) (mName 6))) mNext))))
    (mRet [0] (mTup (mCons (mC (.str "sum")) (mCons (mCB fTuple (mCons (mName 4) mNil)) mNil)))))) mNext))
    (mSeq (mIfS (mTst (mOp (fEq false) (mName 3) (mC (.int 2)))) (mRet [0] (mTup (mCons (mC (.str "times")) (mCons (mOp fIx (mTup (mCons (mCall F_law_draw (mCons (mName 0) (mCons (mC (.int 4)) mNil))) (mCons (mCall F_law_draw (mCons (mName 0) (mCons (mC (.int 40)) mNil))) (mCons (mCall F_law_draw (mCons (mName 0) (mCons (mC (.int 1001)) mNil))) mNil)))) (mCall F_law_draw (mCons (mName 0) (mCons (mC (.int 3)) mNil)))) (mCons (mCall R (mCons (mName 0) (mCons (mName 1) (mCons (mOp fSub (mName 2) (mC (.int 1))) mNil)))) mNil))))) mNext)
    (mSeq (mIfS (mTst (mOp (fEq false) (mName 3) (mC (.int 3)))) (mRet [0] (mTup (mCons (mC (.str "minus")) (mCons (mCall R (mCons (mName 0) (mCons (mName 1) (mCons (mOp fSub (mName 2) (mC (.int 1))) mNil)))) mNil)))) mNext)
    (mSeq (mSet 8 (mCall R (mCons (mName 0) (mCons (mName 1) (mCons (mOp fSub (mName 2) (mC (.int 1))) mNil)))))
    (mRet [0] (mTup (mCons (mIf (mTst (mOp fLt (mName 3) (mC (.int 6)))) (mC (.str "plus")) (mC (.str "less"))) (mCons (mName 8) (mCons (mCall R (mCons (mName 0) (mCons (mName 1) (mCons (mOp fSub (mName 2) (mC (.int 1))) mNil)))) mNil))))))))))
noncomputable def F_law_tree : Nat → FN
  | 0 => fun _ => .no
  | n + 1 => F_law_tree_b (F_law_tree n)
noncomputable def F_law_gap : FN := fnM 1 1 [0] (mRet [0] (mSl (mC (.str "   ")) mNoPart (mPart (mCall F_law_draw (mCons (mName 0) (mCons (mC (.int 4)) mNil))))))
noncomputable def E_law_conditions_text_1 : ME := (mSS (replS "/") (mName 5) (mOp fAdd (mName 4) (mC (.str "/"))))
noncomputable def B_law_conditions_text_2 : MS := (mKill [3, 4] (mSeq (mSet 4 (mCall F_law_gap (mCons (mName 0) mNil)))
    (mExpr (mApp (mName 2) (mOp fAdd (mOp fAdd (mOp fIx (mName 3) (mC (.int 0))) (mC (.str " in "))) (mSM fJoin (mOp fAdd (mOp fAdd (mName 4) (mC (.str ","))) (mName 4)) (mLc [0] (mIt (mOp fIx (mName 3) (mC (.int 1)))) (gmName 5) mYes E_law_conditions_text_1 [5])))))))
noncomputable def F_law_conditions_text : FN := fnM 2 6 [0] (mSeq (mOwn 2 (mLst mNil))
    (mSeq (mFor (mIt (mName 1)) (gmName 3) B_law_conditions_text_2)
    (mRet [0] (mOp fAdd (mC (.str " where ")) (mSM fJoin (mC (.str " and ")) (mName 2))))))
variable [CM]
theorem draw_t (ds : List Int) (k n : Nat) (hn : 0 < n) : ∃ v : Nat, v < n ∧ F_law_draw [.own (boxD ds k), .val (.int n)] = .ok (.val (.int v)) [.own (boxD ds (k + 1)), .val (.int n)] := by
  have e := law_draw_eq (ds := ds) (k := k) (m := (n : Int)) (by omega)
  obtain ⟨r, hr, h2⟩ := draw_ex ds k (m := (n : Int)) (by omega)
  exact ⟨r, by omega, by rw [e, h2]⟩
theorem loop_ex {ι : Type} {g : GM} {b : MS} (en : ι → D) (I : List ι → Env → Prop) (xs : List ι) (e0 : Env) (h0 : I [] e0) (ht : ∀ pre x post e, xs = pre ++ x :: post → I pre e → ∃ e', turnM g b (en x) e = .nx e' ∧ I (pre ++ [x]) e') : ∃ e', loopM g b (xs.map en) e0 = .nx e' ∧ I xs e' := by
  have key : ∀ (ys pre : List ι) (e : Env), xs = pre ++ ys → I pre e → ∃ e', loopM g b (ys.map en) e = .nx e' ∧ I (pre ++ ys) e' := by
    intro ys
    induction ys with
    | nil => intro pre e _ h; exact ⟨e, rfl, by simpa using h⟩
    | cons x ys ih =>
      intro pre e hx h
      obtain ⟨e1, h1, h2⟩ := ht pre x ys e hx h
      obtain ⟨e2, h3, h4⟩ := ih (pre ++ [x]) e1 (by rw [hx]; simp) h2
      refine ⟨e2, ?_, by simpa using h4⟩
      rw [List.map_cons, loop_cons, h1]
      exact h3
  exact key xs [] e0 rfl h0
structure CndG (ms : List Dim) (c : CndW) : Prop where
  d : ∃ m ∈ ms, c.1 = m.nm ∧ ∀ p ∈ c.2, ∃ lf ∈ m.ls, ∃ n, 1 ≤ n ∧ n ≤ lf.length ∧ p = lf.take n
  ne : c.2 ≠ []
  few : c.2.length ≤ 3
theorem CndG.ok {ms : List Dim} (g : GoodD ms) {c : CndW} (h : CndG ms c) : CndOk c := by
  obtain ⟨⟨m, hm, h1, h2⟩, h3, h4⟩ := h
  obtain ⟨g1, g2⟩ := g.good m hm
  refine ⟨by rw [h1]; exact g1, h3, fun p hp => ?_⟩
  obtain ⟨lf, hlf, n, n1, n2, rfl⟩ := h2 p hp
  refine ⟨fun e => ?_, fun x hx => (g2.wd lf hlf).2 x (List.mem_of_mem_take hx)⟩
  have := congrArg List.length e
  rw [List.length_take, Nat.min_eq_left n2] at this
  simp at this; omega
theorem a_condition_ex (ds : List Int) (k : Nat) {ms : List Dim} (g : GoodD ms) : ∃ (c : CndW) (k' : Nat), CndG ms c ∧ F_law_a_condition [.own (boxD ds k), .val (.tup (ms.map Dim.d))] = .ok (.val (cndD (toC c))) [.own (boxD ds k'), .val (.tup (ms.map Dim.d))] := by
  have hml : ms.length ≤ 16777216 := by have := g.hi; omega
  obtain ⟨v, hv, e1⟩ := draw_t ds k ms.length (by have := g.lo; omega)
  obtain ⟨n, hn, e2⟩ := draw_t ds (k + 1) 3 (by omega)
  obtain ⟨m, hm⟩ : ∃ m, ms[v]? = some m := ⟨ms[v], List.getElem?_eq_getElem hv⟩
  have hmm : m ∈ ms := List.mem_of_getElem? hm
  have ha : atI (ms.map Dim.d) (v : Int) = some m.d := atI_nat (by rw [List.getElem?_map, hm]; rfl)
  have e2 : F_law_draw [.own (boxD ds (k + 1)), .val (.int 3)] = _ := e2
  have hrg : rng1 (1 + (n : Int)) = some ((List.range (1 + n)).map fun k : Nat => D.int k) := rng1_nat (n := 1 + n) (by omega)
  have gl := (g.good m hmm).2
  have hll : m.ls.length ≤ 16777216 := by have := gl.hi; omega
  have a0 : ∀ x y : D, atI [x, y] 0 = some x := fun x y => atI_nat (j := 0) rfl
  have a1 : ∀ x y : D, atI [x, y] 1 = some y := fun x y => atI_nat (j := 1) rfl
  obtain ⟨e', hL, k', c, he', hc1, hc2⟩ := loop_ex (g := gmName 4) (b := B_law_a_condition_1) (fun k : Nat => D.int k)
    (fun pre e => ∃ (k' : Nat) (c : List (List (List Nat))), e = [some (.own (boxD ds k')), some (.val (.tup (ms.map Dim.d))), some (.val (.tup [dT m.nm, .tup (m.ls.map leafD)])), some (.own (.lst ((c.map pathT).map dT))), none, none] ∧ c.length = pre.length ∧ ∀ p ∈ c, ∃ lf ∈ m.ls, ∃ n, 1 ≤ n ∧ n ≤ lf.length ∧ p = lf.take n)
    (List.range (1 + n)) [some (.own (boxD ds (k + 1 + 1))), some (.val (.tup (ms.map Dim.d))), some (.val (.tup [dT m.nm, .tup (m.ls.map leafD)])), some (.own (.lst [])), none, none] ⟨_, [], rfl, rfl, by simp⟩ (by
      rintro pre x post _ hx ⟨k', c, rfl, hc1, hc2⟩
      have hpl : pre.length < 1 + n := by have := congrArg List.length hx; simp at this; omega
      obtain ⟨u, hu, f1⟩ := draw_t ds k' m.ls.length (by have := gl.lo; omega)
      obtain ⟨lf, hlf⟩ : ∃ lf, m.ls[u]? = some lf := ⟨m.ls[u], List.getElem?_eq_getElem hu⟩
      have hlm : lf ∈ m.ls := List.mem_of_getElem? hlf
      obtain ⟨hw1, hw2⟩ := gl.wd lf hlm
      obtain ⟨hcl, hsz⟩ := gl.leaf hlm
      have hl0 : lf ≠ [] := fun e => by rw [e] at hw1; have := gl.d1; simp at hw1; omega
      obtain ⟨t, ht, f2⟩ := draw_t ds (k' + 1) lf.length (by have := gl.d1; omega)
      have hlv := law_level_eq hcl (by omega)
      have hpf := law_prefix_eq (n := 1 + t) hl0 hcl (by omega)
      have hpf : F_law_prefix [.val (dT (pathT lf)), .val (.int (1 + (t : Int)))] = .ok (.val (dT (pathT (lf.take (1 + t))))) [.val (dT (pathT lf)), .val (.int (1 + (t : Int)))] := hpf
      have hau : atI (m.ls.map leafD) (u : Int) = some (dT (pathT lf)) := atI_nat (by rw [List.getElem?_map, hlf]; rfl)
      have hal : c.length < 16777216 := by omega
      refine ⟨_, ?_, k' + 1 + 1, c ++ [lf.take (1 + t)], rfl, by simp [hc1], ?_⟩
      · simp -implicitDefEqProofs [B_law_a_condition_1, a1, hll, f1, hau, hlv, f2, hpf, hal]
      · intro p hp
        rcases List.mem_append.mp hp with h | h
        · exact hc2 p h
        · rw [List.mem_singleton.mp h]
          exact ⟨lf, hlm, 1 + t, by omega, by omega, rfl⟩)
  refine ⟨(m.nm, c), k', ⟨⟨m, hmm, rfl, hc2⟩, fun e => ?_, ?_⟩, ?_⟩
  · rw [show c = [] from e] at hc1; simp at hc1; omega
  · show c.length ≤ 3
    rw [hc1]; simp; omega
  · have hcz : c.length ≤ 16777216 := by rw [hc1]; simp; omega
    simp -implicitDefEqProofs [F_law_a_condition, hml, e1, ha, Dim.d, e2, hrg]
    rw [hL, he']
    simp -implicitDefEqProofs [a0, hcz, toC]
inductive GoodT (ms : List Dim) : Nat → Tr → Prop
  | sum {h : Nat} {cs : List CndW} : (∀ c ∈ cs, CndG ms c) → cs.length ≤ 3 → (cs.map (·.1)).Nodup → GoodT ms h (.sum (cs.map toC))
  | times {h n x} : n ≤ 1000 → GoodT ms h x → GoodT ms (h + 1) (.times n x)
  | minus {h x} : GoodT ms h x → GoodT ms (h + 1) (.minus x)
  | plus {h x y} : GoodT ms h x → GoodT ms h y → GoodT ms (h + 1) (.plus x y)
  | less {h x y} : GoodT ms h x → GoodT ms h y → GoodT ms (h + 1) (.less x y)
theorem ndp_snoc {l : List CndW} {c : CndW} (h : (l.map (·.1)).Nodup) (hc : c.1 ∉ l.map (·.1)) : ((l ++ [c]).map (·.1)).Nodup := by
  rw [List.map_append, List.nodup_append]
  refine ⟨h, by simp, ?_⟩
  intro a ha b hb
  rw [List.map_singleton, List.mem_singleton] at hb
  rintro rfl
  exact hc (hb ▸ ha)
noncomputable abbrev B_tree : MS := mKill [5, 6] (mSeq (mSet 6 (mCall F_law_a_condition (mCons (mName 0) (mCons (mName 1) mNil))))
    (mIfS (mTst (mOp (fIn true) (mOp fIx (mName 6) (mC (.int 0))) (mLcO 4 [0] (gmName 7) mYes (mOp fIx (mName 7) (mC (.int 0))) [7]))) (mExpr (mApp (mName 4) (mName 6))) mNext))
theorem tree_loop {ms : List Dim} (g : GoodD ms) (ds : List Int) (k : Nat) (q : Nat) (hq : q < 4) (h kd : Option M) : ∃ (cs : List CndW) (k' : Nat), (∀ c ∈ cs, CndG ms c) ∧ cs.length ≤ 3 ∧ (cs.map (·.1)).Nodup ∧
    loopM (gmName 5) B_tree ((List.range q).map fun k : Nat => D.int k) [some (.own (boxD ds k)), some (.val (.tup (ms.map Dim.d))), h, kd, some (.own (.lst [])), none, none, none, none] = .nx [some (.own (boxD ds k')), some (.val (.tup (ms.map Dim.d))), h, kd, some (.own (.lst (cs.map fun c => cndD (toC c)))), none, none, none, none] := by
  have a0 : ∀ x y : D, atI [x, y] 0 = some x := fun x y => atI_nat (j := 0) rfl
  obtain ⟨e', hL, k', cs, he', h1, h2, h3⟩ := loop_ex (g := gmName 5) (b := B_tree) (fun k : Nat => D.int k)
    (fun pre e => ∃ (k' : Nat) (cs : List CndW), e = [some (.own (boxD ds k')), some (.val (.tup (ms.map Dim.d))), h, kd, some (.own (.lst (cs.map fun c => cndD (toC c)))), none, none, none, none] ∧ (∀ c ∈ cs, CndG ms c) ∧ cs.length ≤ pre.length ∧ (cs.map (·.1)).Nodup)
    (List.range q) [some (.own (boxD ds k)), some (.val (.tup (ms.map Dim.d))), h, kd, some (.own (.lst [])), none, none, none, none] ⟨k, [], rfl, by simp, by simp, by simp⟩ (by
      rintro pre x post _ hx ⟨k', cs, rfl, h1, h2, h3⟩
      have hpl : pre.length < q := by have := congrArg List.length hx; simp at this; omega
      obtain ⟨c, k2, hc, e2⟩ := a_condition_ex ds k' g
      have hcs : cs.length ≤ 16777216 := by omega
      have hcs2 : cs.length < 16777216 := by omega
      have hcomp : mLcO 4 [0] (gmName 7) mYes (mOp fIx (mName 7) (mC (.int 0))) [7] [some (.own (boxD ds k2)), some (.val (.tup (ms.map Dim.d))), h, kd, some (.own (.lst (cs.map fun c => cndD (toC c)))), some (.val (.int (x : Nat))), some (.val (cndD (toC c))), none, none] = .ok (.tmp (.lst ((cs.map (·.1)).map dT))) [some (.own (boxD ds k2)), some (.val (.tup (ms.map Dim.d))), h, kd, some (.own (.lst (cs.map fun c => cndD (toC c)))), some (.val (.int (x : Nat))), some (.val (cndD (toC c))), none, none] := by
        have hmap : compO 4 (cs.map fun c => cndD (toC c)) (gmName 7) mYes (mOp fIx (mName 7) (mC (.int 0))) [7] (cs.map fun c => cndD (toC c)) [some (.own (boxD ds k2)), some (.val (.tup (ms.map Dim.d))), h, kd, some (.own (.lst (cs.map fun c => cndD (toC c)))), some (.val (.int (x : Nat))), some (.val (cndD (toC c))), none, none] = .ok ((cs.map (·.1)).map dT) [some (.own (boxD ds k2)), some (.val (.tup (ms.map Dim.d))), h, kd, some (.own (.lst (cs.map fun c => cndD (toC c)))), some (.val (.int (x : Nat))), some (.val (cndD (toC c))), none, none] := by
          rw [List.map_map (f := fun c : CndW => c.1)]
          refine compO_map rfl (fun c : CndW => cndD (toC c)) (fun c : CndW => dT c.1) cs fun y _ => ?_
          simp -implicitDefEqProofs [a0, toC]
        generalize (cs.map fun c => cndD (toC c)) = L at hmap ⊢
        generalize cndD (toC c) = C at hmap ⊢
        show gd (4 ∉ [7]) (lc2 _ [7] (compO 4 L _ _ _ [7] L _) true) = _
        rw [gd_of (by decide)]
        show lc3 _ [7] (compO 4 L (gmName 7) mYes (mOp fIx (mName 7) (mC (.int 0))) [7] L [some (.own (boxD ds k2)), some (.val (.tup (ms.map Dim.d))), h, kd, some (.own (.lst L)), some (.val (.int (x : Nat))), some (.val C), none, none]) = _
        rw [hmap]
        simp -implicitDefEqProofs [hcs, -List.map_map]
      have hin := inSeq_tx c.1 (cs.map (·.1))
      have hcd : cndD (toC c) = .tup [dT c.1, .tup (c.2.map fun p => dT (pathT p))] := by simp [toC, cndD, Function.comp_def]
      by_cases hmem : c.1 ∈ cs.map (·.1)
      · rw [decide_eq_true hmem] at hin
        refine ⟨_, ?_, k2, cs, rfl, h1, by simp; omega, h3⟩
        rw [hcd] at hcomp e2
        simp -implicitDefEqProofs [e2, a0, hcomp, hin, -List.map_map]
      · rw [decide_eq_false hmem] at hin
        refine ⟨_, ?_, k2, cs ++ [c], rfl, ?_, by simp; omega, ndp_snoc h3 hmem⟩
        · rw [hcd] at hcomp e2
          simp -implicitDefEqProofs [e2, a0, hcomp, hin, hcs2, hcd, -List.map_map]
        · intro y hy
          rcases List.mem_append.mp hy with z | z
          · exact h1 y z
          · rw [List.mem_singleton.mp z]; exact hc)
  refine ⟨cs, k', h1, by simp at h2; omega, h3, ?_⟩
  rw [hL, he']
theorem tree_ex {ms : List Dim} (g : GoodD ms) (ds : List Int) : ∀ (n : Nat) (h : Nat) (k : Nat), h < n → ∃ (x : Tr) (k' : Nat), GoodT ms h x ∧ F_law_tree n [.own (boxD ds k), .val (.tup (ms.map Dim.d)), .val (.int (h : Nat))] = .ok (.val (trD x)) [.own (boxD ds k'), .val (.tup (ms.map Dim.d)), .val (.int (h : Nat))]
  | 0, h, k, hn => by omega
  | n + 1, h, k, hn => by
    obtain ⟨kd, hkd, e1⟩ := draw_t ds k 7 (by omega)
    have e1 : F_law_draw [.own (boxD ds k), .val (.int 7)] = _ := e1
    show ∃ (x : Tr) (k' : Nat), GoodT ms h x ∧ F_law_tree_b (F_law_tree n) _ = _
    by_cases hs : h = 0 ∨ kd < 2
    · obtain ⟨q, hq, e2⟩ := draw_t ds (k + 1) 4 (by omega)
      have e2 : F_law_draw [.own (boxD ds (k + 1)), .val (.int 4)] = _ := e2
      obtain ⟨cs, k', h1, h2, h3, hL⟩ := tree_loop g ds (k + 1 + 1) q hq (some (.val (.int (h : Nat)))) (some (.val (.int (kd : Nat))))
      have hrg : rng1 (q : Int) = some ((List.range q).map fun k : Nat => D.int k) := rng1_nat (n := q) (by omega)
      have hcz : cs.length ≤ 16777216 := by omega
      refine ⟨.sum (cs.map toC), k', .sum h1 h2 h3, ?_⟩
      have hres : trD (.sum (cs.map toC)) = .tup [dT wSum, .tup (cs.map fun c => cndD (toC c))] := by simp [trD, Function.comp_def]
      rw [hres]
      unfold B_tree at hL
      by_cases h0 : h = 0
      · subst h0
        unfold F_law_tree_b
        simp -implicitDefEqProofs [e1, e2, hrg]
        have hL : loopM (gmName 5) _ ((List.range q).map fun k : Nat => D.int k) [some (.own (boxD ds (k + 1 + 1))), some (.val (.tup (ms.map Dim.d))), some (.val (.int 0)), some (.val (.int (kd : Nat))), some (.own (.lst [])), none, none, none, none] = _ := hL
        rw [hL]
        simp -implicitDefEqProofs [hcz, sum_tx]
      · have h4 : kd < 2 := by rcases hs with h | h; exact absurd h h0; exact h
        have h5 : (kd : Int) < 2 := by omega
        unfold F_law_tree_b
        simp -implicitDefEqProofs [e1, e2, hrg, h0, h4, h5]
        rw [hL]
        simp -implicitDefEqProofs [hcz, sum_tx]
    · have h0 : ¬ h = 0 := fun h => hs (.inl h)
      have h2 : ¬ kd < 2 := fun h => hs (.inr h)
      have h2i : ¬ (kd : Int) < 2 := by omega
      obtain ⟨h', rfl⟩ : ∃ h', h = h' + 1 := ⟨h - 1, by omega⟩
      have hc : ((h' + 1 : Nat) : Int) - 1 = (h' : Nat) := by omega
      have hc2 : (h' : Int) + 1 - 1 = (h' : Nat) := by omega
      have h0i : ¬ ((h' : Int) + 1 ≤ 0) := by omega
      by_cases k2 : kd = 2
      · subst k2
        obtain ⟨a, ha, f1⟩ := draw_t ds (k + 1) 4 (by omega)
        obtain ⟨b, hb, f2⟩ := draw_t ds (k + 1 + 1) 40 (by omega)
        obtain ⟨c, hc', f3⟩ := draw_t ds (k + 1 + 1 + 1) 1001 (by omega)
        obtain ⟨t, ht, f4⟩ := draw_t ds (k + 1 + 1 + 1 + 1) 3 (by omega)
        have f1 : F_law_draw [.own (boxD ds (k + 1)), .val (.int 4)] = _ := f1
        have f2 : F_law_draw [.own (boxD ds (k + 1 + 1)), .val (.int 40)] = _ := f2
        have f3 : F_law_draw [.own (boxD ds (k + 1 + 1 + 1)), .val (.int 1001)] = _ := f3
        have f4 : F_law_draw [.own (boxD ds (k + 1 + 1 + 1 + 1)), .val (.int 3)] = _ := f4
        obtain ⟨x, k', hx, e2⟩ := tree_ex g ds n h' (k + 1 + 1 + 1 + 1 + 1) (by omega)
        obtain ⟨v, hv, ha⟩ : ∃ v : Nat, v ≤ 1000 ∧ atI [D.int (a : Nat), .int (b : Nat), .int (c : Nat)] (t : Int) = some (.int (v : Nat)) := by
          have : t = 0 ∨ t = 1 ∨ t = 2 := by omega
          rcases this with rfl | rfl | rfl
          · exact ⟨a, by omega, atI_nat (j := 0) rfl⟩
          · exact ⟨b, by omega, atI_nat (j := 1) rfl⟩
          · exact ⟨c, by omega, atI_nat (j := 2) rfl⟩
        refine ⟨.times v x, k', .times hv hx, ?_⟩
        unfold F_law_tree_b
        simp -implicitDefEqProofs [e1, h0i, f1, f2, f3, f4, ha, hc, hc2, e2, trD]
      · have k2i : ¬ (kd : Int) = 2 := by omega
        by_cases k3 : kd = 3
        · subst k3
          obtain ⟨x, k', hx, e2⟩ := tree_ex g ds n h' (k + 1) (by omega)
          refine ⟨.minus x, k', .minus hx, ?_⟩
          unfold F_law_tree_b
          simp -implicitDefEqProofs [e1, h0i, hc, hc2, e2, trD]
        · have k3i : ¬ (kd : Int) = 3 := by omega
          obtain ⟨x, k', hx, e2⟩ := tree_ex g ds n h' (k + 1) (by omega)
          obtain ⟨y, k'', hy, e3⟩ := tree_ex g ds n h' k' (by omega)
          by_cases k6 : kd < 6
          · have k6i : (kd : Int) < 6 := by omega
            refine ⟨.plus x y, k'', .plus hx hy, ?_⟩
            unfold F_law_tree_b
            simp -implicitDefEqProofs [e1, h0i, h2, h2i, k2, k2i, k3, k3i, k6, k6i, hc, hc2, e2, e3, trD]
          · have k6i : ¬ (kd : Int) < 6 := by omega
            refine ⟨.less x y, k'', .less hx hy, ?_⟩
            unfold F_law_tree_b
            simp -implicitDefEqProofs [e1, h0i, h2, h2i, k2, k2i, k3, k3i, k6, k6i, hc, hc2, e2, e3, trD]
abbrev gapT (n : Nat) : List Nat := List.replicate n 32
theorem gap_ex (ds : List Int) (k : Nat) : ∃ v : Nat, v ≤ 3 ∧ F_law_gap [.own (boxD ds k)] = .ok (.val (dT (gapT v))) [.own (boxD ds (k + 1))] := by
  obtain ⟨v, hv, e1⟩ := draw_t ds k 4 (by omega)
  have e1 : F_law_draw [.own (boxD ds k), .val (.int 4)] = _ := e1
  have hs : Str.ofString "   " = tx [32, 32, 32] := by decide +kernel
  have hc : cutS (tx [32, 32, 32]) none (some (v : Int)) = tx ([32, 32, 32].take v) := cutS_to _ v
  have ht : [32, 32, 32].take v = gapT v := by
    have : v = 0 ∨ v = 1 ∨ v = 2 ∨ v = 3 := by omega
    rcases this with rfl | rfl | rfl | rfl <;> rfl
  rw [ht] at hc
  refine ⟨v, by omega, ?_⟩
  simp -implicitDefEqProofs [F_law_gap, e1, hs, hc]
def inT : List Nat := [32, 105, 110, 32]
def whereT : List Nat := [32, 119, 104, 101, 114, 101, 32]
def andT : List Nat := [32, 97, 110, 100, 32]
theorem inT_tx : Str.ofString " in " = tx inT := by decide +kernel
theorem whereT_tx : Str.ofString " where " = tx whereT := by decide +kernel
theorem andT_tx : Str.ofString " and " = tx andT := by decide +kernel
theorem comma_tx : Str.ofString "," = tx [44] := by decide +kernel
def gpT (n : Nat) (p : List Tok) : List Nat := TL.joinL (gapT n ++ [47]) p
def cText (n : Nat) (c : CndW) : List Nat := c.1 ++ inT ++ TL.joinL (gapT n ++ [44] ++ gapT n) (c.2.map (gpT n))
def csText (gc : List (Nat × CndW)) : List Nat := whereT ++ TL.joinL andT (gc.map fun x => cText x.1 x.2)
theorem replace_path {p : List Tok} (hp : p ≠ []) (hw : ∀ w ∈ p, clean w) (z : List Nat) : Txt.replace (tx (pathT p)) (tx [47]) (tx z) = tx (TL.joinL z p) := by
  have h1 : Txt.replace (tx (pathT p)) (tx [47]) (tx z) = Str.join (tx z) (Txt.split (tx (pathT p)) (tx [47])) := StrLaws.replace_one _ _ 47
  rw [h1, split_path hp hw]
  refine TL.ext_tl ?_
  rw [TL.tl_join]
  have e : (p.map tx).map TL.tl = p := by
    rw [List.map_map]
    exact (List.map_congr_left fun w _ => by show TL.tl (tx w) = w; exact tx_list w).trans (List.map_id p)
  rw [e]
  show TL.joinL (tx z).cps.toList p = (tx (TL.joinL z p)).cps.toList
  rw [tx_list, tx_list]
theorem CndG.pathw {ms : List Dim} (g : GoodD ms) {c : CndW} (h : CndG ms c) {p : List Tok} (hp : p ∈ c.2) : p ≠ [] ∧ (∀ w ∈ p, isWord w = true) ∧ (∀ w ∈ p, clean w) ∧ p.length ≤ 3 ∧ szP p ≤ 27 := by
  have h1 := (h.ok g).w p hp
  obtain ⟨m, hm, _, h2⟩ := h.d
  obtain ⟨lf, hlf, n, n1, n2, rfl⟩ := h2 p hp
  have gl := (g.good m hm).2
  have hl : (lf.take n).length ≤ 3 := by
    have := (gl.wd lf hlf).1
    have := gl.d3
    rw [List.length_take]; omega
  refine ⟨h1.1, h1.2, fun w hw => (isWord_clean (h1.2 w hw)).1, hl, ?_⟩
  have := szP_le (n := 8) (ws := lf.take n) fun w hw => (isWord_clean (h1.2 w hw)).2
  omega
theorem gpT_len {p : List Tok} {n : Nat} (hn : n ≤ 3) (h1 : p.length ≤ 3) (h2 : szP p ≤ 27) : (gpT n p).length ≤ 40 := by
  have := joinL_len (gapT n ++ [47]) p
  unfold gpT
  unfold szP at h2
  rw [List.length_append, List.length_replicate, List.length_singleton] at this
  have h3 : p.length * (n + 1) ≤ 3 * 4 := Nat.mul_le_mul h1 (by omega)
  have h4 : p.length = 0 ∨ p.length = 1 ∨ p.length = 2 ∨ p.length = 3 := by omega
  omega
theorem sum_map_le {α : Type} {f : α → Nat} {b : Nat} : ∀ {l : List α}, (∀ x ∈ l, f x ≤ b) → (l.map f).sum ≤ l.length * b
  | [], _ => by simp
  | x :: l, h => by
    have ih := sum_map_le (l := l) fun y hy => h y (List.mem_cons_of_mem _ hy)
    have := h x (List.mem_cons_self ..)
    rw [List.map_cons, List.sum_cons, List.length_cons, Nat.add_mul]
    omega
theorem cText_len {ms : List Dim} (g : GoodD ms) {c : CndW} (h : CndG ms c) {n : Nat} (hn : n ≤ 3) : (TL.joinL (gapT n ++ [44] ++ gapT n) (c.2.map (gpT n))).length ≤ 141 ∧ (cText n c).length ≤ 153 := by
  have h1 := joinL_len (gapT n ++ [44] ++ gapT n) (c.2.map (gpT n))
  have h2 : ((c.2.map (gpT n)).map List.length).sum ≤ c.2.length * 40 := by
    rw [List.map_map]
    exact sum_map_le fun p hp => gpT_len hn (h.pathw g hp).2.2.2.1 (h.pathw g hp).2.2.2.2
  have h3 := h.few
  have h4 : (gapT n ++ [44] ++ gapT n).length ≤ 7 := by simp; omega
  have h5 : c.2.length * (gapT n ++ [44] ++ gapT n).length ≤ 3 * 7 := Nat.mul_le_mul h3 h4
  have h6 := (isWord_clean (h.ok g).n).2
  rw [List.length_map] at h1
  have h7 : c.2.length * 40 ≤ 3 * 40 := Nat.mul_le_mul_right _ h3
  have h8 : (TL.joinL (gapT n ++ [44] ++ gapT n) (c.2.map (gpT n))).length ≤ 141 := by omega
  refine ⟨h8, ?_⟩
  unfold cText
  rw [List.length_append, List.length_append, show inT.length = 4 from rfl]
  omega
theorem conds_text_ex (ds : List Int) (k : Nat) {ms : List Dim} (g : GoodD ms) {cs : List CndW} (hc : ∀ c ∈ cs, CndG ms c) (hl : cs.length ≤ 3) : ∃ (gc : List (Nat × CndW)) (k' : Nat), gc.map (·.2) = cs ∧ (∀ x ∈ gc, x.1 ≤ 3) ∧
    F_law_conditions_text [.own (boxD ds k), .val (.tup (cs.map fun c => cndD (toC c)))] = .ok (.val (dT (csText gc))) [.own (boxD ds k'), .val (.tup (cs.map fun c => cndD (toC c)))] := by
  have a0 : ∀ x y : D, atI [x, y] 0 = some x := fun x y => atI_nat (j := 0) rfl
  have a1 : ∀ x y : D, atI [x, y] 1 = some y := fun x y => atI_nat (j := 1) rfl
  obtain ⟨e', hL, k', gc, he', h1, h2⟩ := loop_ex (g := gmName 3) (b := B_law_conditions_text_2) (fun c : CndW => cndD (toC c))
    (fun pre e => ∃ (k' : Nat) (gc : List (Nat × CndW)), e = [some (.own (boxD ds k')), some (.val (.tup (cs.map fun c => cndD (toC c)))), some (.own (.lst ((gc.map fun x => cText x.1 x.2).map dT))), none, none, none] ∧ gc.map (·.2) = pre ∧ ∀ x ∈ gc, x.1 ≤ 3)
    cs [some (.own (boxD ds k)), some (.val (.tup (cs.map fun c => cndD (toC c)))), some (.own (.lst [])), none, none, none] ⟨k, [], rfl, rfl, by simp⟩ (by
      rintro pre c post _ hx ⟨k', gc, rfl, h1, h2⟩
      have hcm : c ∈ cs := by rw [hx]; simp
      have hcg := hc c hcm
      obtain ⟨v, hv, e1⟩ := gap_ex ds k'
      have hgl : gc.length < 16777216 := by
        have := congrArg List.length h1
        have := congrArg List.length hx
        simp at *; omega
      obtain ⟨l1, l2⟩ := cText_len g hcg hv
      have hnm := (isWord_clean (hcg.ok g).n).2
      have hcd : cndD (toC c) = .tup [dT c.1, .tup (c.2.map fun p => dT (pathT p))] := by simp [toC, cndD, Function.comp_def]
      have hc2 : c.2.length ≤ 16777216 := by have := hcg.few; omega
      have hcomp : ∀ E : Env, E = [some (.own (boxD ds (k' + 1))), some (.val (.tup (cs.map fun c => cndD (toC c)))), some (.own (.lst ((gc.map fun x => cText x.1 x.2).map dT))), some (.val (.tup [dT c.1, .tup (c.2.map fun p => dT (pathT p))])), some (.val (dT (gapT v))), none] → compM (gmName 5) mYes E_law_conditions_text_1 [5] (c.2.map fun p => dT (pathT p)) E = .ok (c.2.map fun p => dT (gpT v p)) E := by
        rintro E rfl
        refine comp_map (fun p : List Tok => dT (pathT p)) (fun p : List Tok => dT (gpT v p)) c.2 fun p hp => ?_
        obtain ⟨q1, q2, q3, q4, q5⟩ := hcg.pathw g hp
        have hr := replace_path q1 q3 (gapT v ++ [47])
        have hsz := pathT_len p
        have hz1 : v + 1 ≤ 16777216 := by omega
        have hrs : replS (tx [47]) (tx (pathT p)) (tx (gapT v ++ [47])) = some (.val (dT (gpT v p))) := by
          rw [replS_of, hr]; rfl
          rw [tx_len, tx_len, List.length_append, List.length_replicate, List.length_singleton]
          have : ((pathT p).length + 1) * (v + 1) ≤ 28 * 4 := Nat.mul_le_mul (by omega) (by omega)
          omega
        simp -implicitDefEqProofs [E_law_conditions_text_1, slash_tx, hz1, hrs]
      have hj : joinS (tx (gapT v ++ [44] ++ gapT v)) ((c.2.map (gpT v)).map tx) = some (.val (.str (tx (TL.joinL (gapT v ++ [44] ++ gapT v) (c.2.map (gpT v)))))) := by
        refine join_tx ?_
        have h2' : ((c.2.map (gpT v)).map List.length).sum ≤ c.2.length * 40 := by
          rw [List.map_map]
          exact sum_map_le fun p hp => gpT_len hv (hcg.pathw g hp).2.2.2.1 (hcg.pathw g hp).2.2.2.2
        have h4 : (gapT v ++ [44] ++ gapT v).length ≤ 7 := by simp; omega
        have h5 : (c.2.map (gpT v)).length * (gapT v ++ [44] ++ gapT v).length ≤ 3 * 7 := Nat.mul_le_mul (by rw [List.length_map]; exact hcg.few) h4
        have h7 : c.2.length * 40 ≤ 3 * 40 := Nat.mul_le_mul_right _ hcg.few
        omega
      refine ⟨_, ?_, k' + 1, gc ++ [(v, c)], rfl, by simp [h1], ?_⟩
      · have hd : (c.2.map fun p => dT (gpT v p)) = ((c.2.map (gpT v)).map tx).map D.str := by simp [Function.comp_def]
        have hb1 : c.1.length + 4 ≤ 16777216 := by omega
        have hb2 : v + 1 ≤ 16777216 := by omega
        have hb3 : v + 1 + v ≤ 16777216 := by omega
        have hb3' : v + (1 + v) ≤ 16777216 := by omega
        have hin4 : inT.length = 4 := rfl
        have hb4 : c.1.length + 4 + (TL.joinL (gapT v ++ [44] ++ gapT v) (c.2.map (gpT v))).length ≤ 16777216 := by omega
        have hb4' : c.1.length + (4 + (TL.joinL (gapT v ++ [44] ++ gapT v) (c.2.map (gpT v))).length) ≤ 16777216 := by omega
        rw [hcd]
        simp -implicitDefEqProofs [B_law_conditions_text_2, e1, a0, a1, inT_tx, comma_tx, hin4, hb1, hb2, hb3, hb3', -List.append_assoc, -List.map_map]
        rw [hcomp _ rfl]
        simp -implicitDefEqProofs [hc2, -List.append_assoc, -List.map_map]
        have hj' : joinS (tx (gapT v ++ [44] ++ gapT v)) (c.2.map fun x => tx (gpT v x)) = some (.val (.str (tx (TL.joinL (gapT v ++ [44] ++ gapT v) (c.2.map (gpT v)))))) := by
          rw [List.map_map] at hj; exact hj
        rw [hj']
        have hct : cText v c = c.1 ++ inT ++ TL.joinL (gapT v ++ [44] ++ gapT v) (c.2.map (gpT v)) := rfl
        rw [hct]
        simp -implicitDefEqProofs [hin4, hb4, hb4', hgl, -List.append_assoc, -List.map_map]
      · intro x hx
        rcases List.mem_append.mp hx with z | z
        · exact h2 x z
        · rw [List.mem_singleton.mp z]; exact hv)
  refine ⟨gc, k', h1, h2, ?_⟩
  have hgl : gc.length ≤ 3 := by have := congrArg List.length h1; simp at this; omega
  have hcl : ∀ x ∈ gc, (cText x.1 x.2).length ≤ 153 := fun x hx => (cText_len g (hc x.2 (by rw [← h1]; exact List.mem_map_of_mem hx)) (h2 x hx)).2
  have hsm : ((gc.map fun x => cText x.1 x.2).map List.length).sum ≤ gc.length * 153 := by
    rw [List.map_map]
    exact sum_map_le hcl
  have hm2 : gc.length * 153 ≤ 3 * 153 := Nat.mul_le_mul_right _ hgl
  have hand : andT.length = 5 := rfl
  have hwhere : whereT.length = 7 := rfl
  have hj : joinS (tx andT) ((gc.map fun x => cText x.1 x.2).map tx) = some (.val (.str (tx (TL.joinL andT (gc.map fun x => cText x.1 x.2))))) := join_tx (by rw [List.length_map, hand]; omega)
  have hjl := joinL_len andT (gc.map fun x => cText x.1 x.2)
  rw [List.length_map, hand] at hjl
  have hb : 7 + (TL.joinL andT (gc.map fun x => cText x.1 x.2)).length ≤ 16777216 := by omega
  have hcsz : cs.length ≤ 16777216 := by omega
  have hgz : gc.length ≤ 16777216 := by omega
  have hcs : csText gc = whereT ++ TL.joinL andT (gc.map fun x => cText x.1 x.2) := rfl
  rw [hcs]
  generalize hg2 : (gc.map fun x => cText x.1 x.2) = ts at *
  have htl : ts.length ≤ 16777216 := by rw [← hg2, List.length_map]; exact hgz
  simp -implicitDefEqProofs [F_law_conditions_text, whereT_tx, andT_tx]
  rw [hL, he']
  have hso : strsOf (ts.map dT) = some (ts.map tx) := by
    have := strsOf_map (ts.map tx)
    rwa [List.map_map] at this
  simp -implicitDefEqProofs [hso, hj, hwhere, hb, -List.map_map]
end VL
set_option Elab.async false
set_option linter.all false
set_option maxRecDepth 100000
set_option maxHeartbeats 4000000
namespace VL
open PySem PySem.Spec PyProof.Rows L2
noncomputable def F_law_factor_text (R : FN) : FN := fnM 2 2 [0] (mSeq (mIfS (mAndT (mTst (mOp (fEq false) (mOp fIx (mName 1) (mC (.int 0))) (mC (.str "sum")))) (mTst (mOp fGt (mCall F_law_draw (mCons (mName 0) (mCons (mC (.int 6)) mNil))) (mC (.int 0))))) (mRet [0] (mOp fAdd (mC (.str "sum")) (mIf (mTst (mOp fGt (mCB fLen (mCons (mOp fIx (mName 1) (mC (.int 1))) mNil)) (mC (.int 0)))) (mCall F_law_conditions_text (mCons (mName 0) (mCons (mOp fIx (mName 1) (mC (.int 1))) mNil))) (mC (.str ""))))) mNext)
    (mSeq (mIfS (mTst (mOp (fEq false) (mOp fIx (mName 1) (mC (.int 0))) (mC (.str "sum")))) (mRet [0] (mOp fAdd (mOp fAdd (mOp fAdd (mC (.str "(sum")) (mIf (mTst (mOp fGt (mCB fLen (mCons (mOp fIx (mName 1) (mC (.int 1))) mNil)) (mC (.int 0)))) (mCall F_law_conditions_text (mCons (mName 0) (mCons (mOp fIx (mName 1) (mC (.int 1))) mNil))) (mC (.str "")))) (mCall F_law_gap (mCons (mName 0) mNil))) (mC (.str ")")))) mNext)
    (mRet [0] (mOp fAdd (mOp fAdd (mOp fAdd (mC (.str "(")) (mCall F_law_gap (mCons (mName 0) mNil))) (mCall R (mCons (mName 0) (mCons (mName 1) mNil)))) (mC (.str ")"))))))
noncomputable def F_law_term_text (R : FN) : FN := fnM 2 2 [0] (mSeq (mIfS (mTst (mOp (fEq false) (mOp fIx (mName 1) (mC (.int 0))) (mC (.str "times")))) (mRet [0] (mOp fAdd (mOp fAdd (mOp fAdd (mOp fAdd (mCB fStr (mCons (mOp fIx (mName 1) (mC (.int 1))) mNil)) (mCall F_law_gap (mCons (mName 0) mNil))) (mC (.str "*"))) (mCall F_law_gap (mCons (mName 0) mNil))) (mCall (F_law_factor_text R) (mCons (mName 0) (mCons (mOp fIx (mName 1) (mC (.int 2))) mNil))))) mNext)
    (mRet [0] (mCall (F_law_factor_text R) (mCons (mName 0) (mCons (mName 1) mNil)))))
noncomputable def F_law_tree_text_b (R : FN) : FN := fnM 2 3 [0] (mSeq (mKill [2] (mIfS (mOrT (mTst (mOp (fEq false) (mOp fIx (mName 1) (mC (.int 0))) (mC (.str "plus")))) (mTst (mOp (fEq false) (mOp fIx (mName 1) (mC (.int 0))) (mC (.str "less"))))) (mSeq (mSet 2 (mIf (mTst (mOp (fEq false) (mOp fIx (mName 1) (mC (.int 0))) (mC (.str "plus")))) (mC (.str "+")) (mC (.str "-"))))
    (mRet [0] (mOp fAdd (mOp fAdd (mOp fAdd (mOp fAdd (mCall R (mCons (mName 0) (mCons (mOp fIx (mName 1) (mC (.int 1))) mNil))) (mCall F_law_gap (mCons (mName 0) mNil))) (mName 2)) (mCall F_law_gap (mCons (mName 0) mNil))) (mCall (F_law_term_text R) (mCons (mName 0) (mCons (mOp fIx (mName 1) (mC (.int 2))) mNil)))))) mNext))
    (mSeq (mIfS (mTst (mOp (fEq false) (mOp fIx (mName 1) (mC (.int 0))) (mC (.str "minus")))) (mRet [0] (mOp fAdd (mOp fAdd (mC (.str "-")) (mCall F_law_gap (mCons (mName 0) mNil))) (mCall (F_law_term_text R) (mCons (mName 0) (mCons (mOp fIx (mName 1) (mC (.int 1))) mNil))))) mNext)
    (mRet [0] (mCall (F_law_term_text R) (mCons (mName 0) (mCons (mName 1) mNil))))))
noncomputable def F_law_tree_text : Nat → FN
  | 0 => fun _ => .no
  | n + 1 => F_law_tree_text_b (F_law_tree_text n)
variable [CM]
abbrev nl (c : Nat) : Prop := c ∉ lettersL ∧ c ∉ dgtL
theorem nl32 : nl 32 := by decide
def joinK (s : List Tok) : List (List Tok) → List Tok
  | [] => []
  | [l] => l
  | l :: m :: r => l ++ (s ++ joinK s (m :: r))
theorem joinK_cons (s l : List Tok) : ∀ r : List (List Tok), joinK s (l :: r) = l ++ r.flatMap fun m => s ++ m
  | [] => by simp [joinK]
  | m :: r => by
    rw [joinK, joinK_cons s m r]
    simp
structure Sep (S : List Nat) (s : List Tok) : Prop where
  x : Lex S s
  ne : S ≠ []
  hd : ∀ d r, S = d :: r → nl d
  tl : ∀ c, S.getLast? = some c → nl c
theorem lex_join {S : List Nat} {s : List Tok} (h : Sep S s) : ∀ (q : List (List Nat × List Tok)), (∀ x ∈ q, Lex x.1 x.2) → Lex (TL.joinL S (q.map (·.1))) (joinK s (q.map (·.2)))
  | [], _ => .nil
  | [x], hq => hq x (List.mem_cons_self ..)
  | x :: y :: q, hq => by
    have ih := lex_join h (y :: q) fun z hz => hq z (List.mem_cons_of_mem _ hz)
    have hx := hq x (List.mem_cons_self ..)
    show Lex (x.1 ++ (S ++ TL.joinL S ((y :: q).map (·.1)))) (x.2 ++ (s ++ joinK s ((y :: q).map (·.2))))
    refine lex_app hx (lex_app h.x ih (jn_l fun c hc => h.tl c hc)) (jn_r fun d r e => ?_)
    cases hS : S with
    | nil => exact absurd hS h.ne
    | cons a t =>
      rw [hS] at e
      injection e with e1 _
      rw [← e1]
      exact h.hd a t hS
theorem lex_word {w : Tok} (h : isWord w = true) : Lex w [w] := by
  obtain ⟨h1, _, h3, _⟩ := word_facts h
  have := Lex.word (t := []) (ws := []) h1 h3 trivial .nil
  rwa [List.append_nil] at this
theorem lex_one {c : Nat} (h : c ≠ 32) (h2 : nl c) : Lex [c] [[c]] := .sign h h2.1 h2.2 .nil
theorem gap_hd {n : Nat} : ∀ d r, gapT n = d :: r → nl d := fun d r e => by
  have : d ∈ gapT n := by rw [e]; exact List.mem_cons_self ..
  rw [List.eq_of_mem_replicate this]; exact nl32
theorem gap_tl {n : Nat} : ∀ c, (gapT n).getLast? = some c → nl c := fun c e => by
  have : c ∈ gapT n := List.mem_of_getLast? e
  rw [List.eq_of_mem_replicate this]; exact nl32
def nlH (T : List Nat) : Prop := ∀ d r, T = d :: r → nl d
def nlT (T : List Nat) : Prop := ∀ c, T.getLast? = some c → nl c
theorem nlH_cons {c : Nat} {t : List Nat} (h : nl c) : nlH (c :: t) := fun d r e => by injection e with e1 _; rw [← e1]; exact h
theorem nlH_app {a b : List Nat} (h1 : nlH a) (h2 : nlH b) : nlH (a ++ b) := by
  cases a with
  | nil => exact h2
  | cons c t => exact nlH_cons (h1 c t rfl)
theorem nlT_app {a b : List Nat} (h1 : nlT a) (h2 : nlT b) : nlT (a ++ b) := fun c e => by
  rw [List.getLast?_append] at e
  cases hb : b.getLast? with
  | none => rw [hb] at e; exact h1 c e
  | some d => rw [hb] at e; exact h2 c (by rw [hb]; exact e)
theorem nlT_one {c : Nat} (h : nl c) : nlT [c] := fun d e => by cases e; exact h
theorem lex_gapR {T : List Nat} {l : List Tok} (n : Nat) (h : Lex T l) : Lex (T ++ gapT n) l := by
  have := lex_app h (lex_gap n) (jn_r gap_hd)
  rwa [List.append_nil] at this
theorem lex_gapL {T : List Nat} {l : List Tok} (n : Nat) (h : Lex T l) : Lex (gapT n ++ T) l := by
  have := lex_app (lex_gap n) h (jn_l gap_tl)
  rwa [List.nil_append] at this
theorem sep_slash (n : Nat) : Sep (gapT n ++ [47]) [[47]] :=
  ⟨lex_gapL n (lex_one (by decide) (by decide)), by simp, nlH_app gap_hd (nlH_cons (by decide)), nlT_app gap_tl (nlT_one (by decide))⟩
theorem sep_comma (n : Nat) : Sep (gapT n ++ [44] ++ gapT n) [[44]] :=
  ⟨lex_gapR n (lex_gapL n (lex_one (by decide) (by decide))), by simp, nlH_app (nlH_app gap_hd (nlH_cons (by decide))) gap_hd, nlT_app (nlT_app gap_tl (nlT_one (by decide))) gap_tl⟩
theorem lex_spaced {w : Tok} (h1 : w ≠ []) (h2 : ∀ c ∈ w, c ∈ lettersL) : Lex (32 :: (w ++ [32])) [w] :=
  .blank (.word h1 h2 (show 32 ∉ lettersL by decide) (.blank .nil))
theorem sep_and : Sep andT [wAnd] :=
  ⟨lex_spaced (w := wAnd) (by decide) (by decide), by decide, nlH_cons nl32, fun c e => by cases e; exact (show nl 32 from nl32)⟩
theorem pathK_join {p : List Tok} : pathK p = joinK [[47]] (p.map fun w => [w]) := by
  cases p with
  | nil => rfl
  | cons w r =>
    rw [List.map_cons, joinK_cons]
    show w :: (r.flatMap fun x => [[47], x]) = [w] ++ (r.map fun w => [w]).flatMap fun m => [[47]] ++ m
    rw [List.flatMap_map]; rfl
theorem pathsW_join {ps : List (List Tok)} : pathsW ps = joinK [[44]] (ps.map pathK) := by
  cases ps with
  | nil => rfl
  | cons p r =>
    rw [List.map_cons, joinK_cons]
    show pathK p ++ (r.flatMap fun q => [44] :: pathK q) = _
    rw [List.flatMap_map]; rfl
theorem lex_gpT {n : Nat} {p : List Tok} (h : ∀ w ∈ p, isWord w = true) : Lex (gpT n p) (pathK p) := by
  have := lex_join (sep_slash n) (p.map fun w => (w, [w])) (by
    intro x hx
    obtain ⟨w, hw, rfl⟩ := List.mem_map.mp hx
    exact lex_word (h w hw))
  rw [List.map_map, List.map_map] at this
  rw [pathK_join]
  have e : (p.map ((fun x : List Nat × List Tok => x.1) ∘ fun w => (w, [w]))) = p := (List.map_congr_left fun w _ => rfl).trans (List.map_id p)
  rw [e] at this
  exact this
theorem lex_cText {ms : List Dim} (g : GoodD ms) {c : CndW} (h : CndG ms c) (n : Nat) : Lex (cText n c) (condW c) := by
  have hp := lex_join (sep_comma n) (c.2.map fun p => (gpT n p, pathK p)) (by
    intro x hx
    obtain ⟨p, hp, rfl⟩ := List.mem_map.mp hx
    exact lex_gpT (h.pathw g hp).2.1)
  rw [List.map_map, List.map_map] at hp
  have hn := lex_word (h.ok g).n
  have hin : Lex inT [wIn] := lex_spaced (w := wIn) (by decide) (by decide)
  have h1 := lex_app hn hin (jn_r (nlH_cons nl32))
  have h2 := lex_app h1 hp (jn_l (fun d e => by
    rw [List.getLast?_append] at e
    have e : some 32 = some d := e
    cases e
    exact nl32))
  unfold cText condW
  rw [pathsW_join]
  exact h2
theorem lex_csText {ms : List Dim} (g : GoodD ms) {gc : List (Nat × CndW)} (h : ∀ x ∈ gc, CndG ms x.2) (hne : gc ≠ []) : Lex ([115, 117, 109] ++ csText gc) (sumW (gc.map (·.2))) := by
  have hp := lex_join sep_and (gc.map fun x => (cText x.1 x.2, condW x.2)) (by
    intro x hx
    obtain ⟨y, hy, rfl⟩ := List.mem_map.mp hx
    exact lex_cText g (h y hy) y.1)
  rw [List.map_map, List.map_map] at hp
  have hw : Lex whereT [wWhere] := lex_spaced (w := wWhere) (by decide) (by decide)
  have hs : Lex [115, 117, 109] [wSum] := by
    have := Lex.word (u := [115, 117, 109]) (t := []) (ws := []) (by decide) (by decide) trivial .nil
    exact this
  have h1 := lex_app hw hp (jn_l fun d e => by cases e; exact (show nl 32 from nl32))
  have h2 := lex_app hs h1 (jn_r (fun d r e => by
    injection e with e1 _
    rw [← e1]
    exact nl32))
  unfold csText
  cases gc with
  | nil => exact absurd rfl hne
  | cons x r =>
    have e : sumW ((x :: r).map (·.2)) = [wSum] ++ ([wWhere] ++ joinK [wAnd] ((x :: r).map fun x => condW x.2)) := by
      rw [List.map_cons, List.map_cons, joinK_cons, List.flatMap_map]
      show wSum :: wWhere :: (condW x.2 ++ _) = _
      rw [List.flatMap_map]; rfl
    rw [e]
    exact h2
theorem csText_len {ms : List Dim} (g : GoodD ms) {gc : List (Nat × CndW)} (h : ∀ x ∈ gc, CndG ms x.2) (h2 : ∀ x ∈ gc, x.1 ≤ 3) (hl : gc.length ≤ 3) : (csText gc).length ≤ 481 := by
  have hjl := joinL_len andT (gc.map fun x => cText x.1 x.2)
  have hsm : ((gc.map fun x => cText x.1 x.2).map List.length).sum ≤ gc.length * 153 := by
    rw [List.map_map]
    exact sum_map_le fun x hx => (cText_len g (h x hx) (h2 x hx)).2
  have hm2 : gc.length * 153 ≤ 3 * 153 := Nat.mul_le_mul_right _ hl
  rw [List.length_map, show andT.length = 5 from rfl] at hjl
  unfold csText
  rw [List.length_append, show whereT.length = 7 from rfl]
  omega
noncomputable abbrev condE : ME := mIf (mTst (mOp fGt (mCB fLen (mCons (mOp fIx (mName 1) (mC (.int 1))) mNil)) (mC (.int 0)))) (mCall F_law_conditions_text (mCons (mName 0) (mCons (mOp fIx (mName 1) (mC (.int 1))) mNil))) (mC (.str ""))
theorem condE_ex (ds : List Int) (k : Nat) {ms : List Dim} (g : GoodD ms) {cs : List CndW} (hc : ∀ c ∈ cs, CndG ms c) (hl : cs.length ≤ 3) : ∃ (C : List Nat) (k' : Nat), Lex ([115, 117, 109] ++ C) (sumW cs) ∧ C.length ≤ 481 ∧
    condE [some (.own (boxD ds k)), some (.val (.tup [dT wSum, .tup (cs.map fun c => cndD (toC c))]))] = .ok (.val (dT C)) [some (.own (boxD ds k')), some (.val (.tup [dT wSum, .tup (cs.map fun c => cndD (toC c))]))] := by
  have a1 : ∀ x y : D, atI [x, y] 1 = some y := fun x y => atI_nat (j := 1) rfl
  have hz : cs.length ≤ 16777216 := by omega
  by_cases h0 : cs = []
  · subst h0
    refine ⟨[], k, ?_, by simp, ?_⟩
    · exact Lex.word (u := [115, 117, 109]) (t := []) (ws := []) (by decide) (by decide) trivial .nil
    · simp -implicitDefEqProofs [condE, a1, nil_tx0]
  · obtain ⟨gc, k', h1, h2, h3⟩ := conds_text_ex ds k g hc hl
    have hm : ∀ x ∈ gc, CndG ms x.2 := fun x hx => hc x.2 (by rw [← h1]; exact List.mem_map_of_mem hx)
    have hgl : gc.length ≤ 3 := by have := congrArg List.length h1; simp at this; omega
    have hne : gc ≠ [] := fun e => h0 (by rw [← h1, e]; rfl)
    have hpos : (0 : Int) < (cs.length : Nat) := by
      have : 0 < cs.length := List.length_pos_iff.mpr h0
      omega
    have hpos' : 0 < cs.length := by omega
    have hlex := lex_csText g hm hne
    rw [h1] at hlex
    refine ⟨csText gc, k', hlex, csText_len g hm h2 hgl, ?_⟩
    have hlen : (cs.map fun c => cndD (toC c)).length = cs.length := List.length_map ..
    generalize (cs.map fun c => cndD (toC c)) = L at h3 hlen ⊢
    simp -implicitDefEqProofs [condE, a1, hlen, hz, hpos, hpos', h3]
theorem par_tx : Str.ofString "(" = tx [40] := by decide +kernel
theorem cls_tx : Str.ofString ")" = tx [41] := by decide +kernel
theorem parsum_tx : Str.ofString "(sum" = tx [40, 115, 117, 109] := by decide +kernel
theorem wsum_tx : Str.ofString "sum" = tx [115, 117, 109] := by decide +kernel
theorem tag_of {ms : List Dim} {h : Nat} {x : Tr} (hx : GoodT ms h x) (hn : ∀ cs, x ≠ .sum cs) : ∃ (tag : List Nat) (rest : List D), trD x = .tup (dT tag :: rest) ∧ tag ≠ [115, 117, 109] := by
  have t1 : Str.ofString "times" = tx [116, 105, 109, 101, 115] := by decide +kernel
  have t2 : Str.ofString "minus" = tx [109, 105, 110, 117, 115] := by decide +kernel
  have t3 : Str.ofString "plus" = tx [112, 108, 117, 115] := by decide +kernel
  have t4 : Str.ofString "less" = tx [108, 101, 115, 115] := by decide +kernel
  cases hx with
  | sum => exact absurd rfl (hn _)
  | times => exact ⟨_, _, by rw [trD, t1], by decide⟩
  | minus => exact ⟨_, _, by rw [trD, t2], by decide⟩
  | plus => exact ⟨_, _, by rw [trD, t3], by decide⟩
  | less => exact ⟨_, _, by rw [trD, t4], by decide⟩
def Txt3 (ds : List Int) (F : FN) (kk d N : Nat) (x : Tr) : Prop := ∀ k, ∃ (T : List Nat) (l : List Tok) (k' : Nat), F [.own (boxD ds k), .val (trD x)] = .ok (.val (dT T)) [.own (boxD ds k'), .val (trD x)] ∧ Lex T l ∧ Wr kk d x l ∧ T.length ≤ N
theorem lex_par {T : List Nat} {l : List Tok} (n : Nat) (h : Lex T l) : Lex ([40] ++ gapT n ++ T ++ [41]) ([40] :: (l ++ [[41]])) := by
  have h1 : Lex ([40] ++ gapT n) [[40]] := lex_gapR n (lex_one (by decide) (by decide))
  have h2 := lex_app (lex_app h1 h (jn_l (nlT_app (nlT_one (by decide)) gap_tl))) (lex_one (c := 41) (by decide) (by decide)) (jn_r (nlH_cons (by decide)))
  exact h2
theorem factor_ex {ds : List Int} {R : FN} {ms : List Dim} (g : GoodD ms) {h d N : Nat} {x : Tr} (hx : GoodT ms h x) (hR : (∀ cs, x ≠ .sum cs) → Txt3 ds R 2 d N x) (hN : N ≤ 1000000) : Txt3 ds (F_law_factor_text R) 0 (d + 1) (N + 500) x := by
  intro k
  by_cases hs : ∃ cs, x = .sum cs
  · obtain ⟨cs0, rfl⟩ := hs
    cases hx with
    | sum hc hl hnd =>
      rename_i cs
      have hres : trD (.sum (cs.map toC)) = .tup [dT [115, 117, 109], .tup (cs.map fun c => cndD (toC c))] := by
        rw [trD, List.map_map]; rfl
      have a0 : ∀ x y : D, atI [x, y] 0 = some x := fun x y => atI_nat (j := 0) rfl
      obtain ⟨v, hv, e1⟩ := draw_t ds k 6 (by omega)
      have e1 : F_law_draw [.own (boxD ds k), .val (.int 6)] = _ := e1
      obtain ⟨C, k', c1, c2, c3⟩ := condE_ex ds (k + 1) g hc hl
      have c3 : condE [some (.own (boxD ds (k + 1))), some (.val (.tup [dT [115, 117, 109], .tup (cs.map fun c => cndD (toC c))]))] = .ok (.val (dT C)) [some (.own (boxD ds k')), some (.val (.tup [dT [115, 117, 109], .tup (cs.map fun c => cndD (toC c))]))] := c3
      unfold condE at c3
      rw [hres]
      generalize (cs.map fun c => cndD (toC c)) = L at c3 ⊢
      by_cases hv0 : 0 < v
      · have hvi : (0 : Int) < (v : Nat) := by omega
        refine ⟨[115, 117, 109] ++ C, sumW cs, k', ?_, c1, .sum fun c hc' => (hc c hc').ok g, by simp; omega⟩
        unfold F_law_factor_text
        have z1 : C.length + 1 + 1 + 1 ≤ 16777216 := by omega
        have z2 : 3 + C.length ≤ 16777216 := by omega
        simp -implicitDefEqProofs [wsum_tx, a0, e1, hvi, hv0, c3, z1, z2, -mIf]
      · have hvi : ¬ ((0 : Int) < (v : Nat)) := by omega
        obtain ⟨u, hu, e2⟩ := gap_ex ds k'
        have hl2 := lex_par u c1
        refine ⟨[40] ++ ([115, 117, 109] ++ C) ++ gapT u ++ [41], _, k' + 1, ?_, ?_, .par (.term (.fac (.sum fun c hc' => (hc c hc').ok g))), by simp; omega⟩
        · have z1 : C.length + 1 + 1 + 1 + 1 ≤ 16777216 := by omega
          have z2 : C.length + 1 + 1 + 1 + 1 + u ≤ 16777216 := by omega
          have z3 : C.length + 1 + 1 + 1 + 1 + u + 1 ≤ 16777216 := by omega
          have z4 : C.length + u + 1 + 1 + 1 + 1 + 1 ≤ 16777216 := by omega
          have z5 : C.length + u + 1 + 1 + 1 + 1 ≤ 16777216 := by omega
          have z6 : 4 + C.length ≤ 16777216 := by omega
          have z7 : 4 + C.length + u ≤ 16777216 := by omega
          have z8 : 4 + C.length + u + 1 ≤ 16777216 := by omega
          unfold F_law_factor_text
          simp -implicitDefEqProofs [wsum_tx, a0, e1, hvi, hv0, parsum_tx, cls_tx, c3, e2, z1, z2, z3, z4, z5, z6, z7, z8, -mIf]
        · have h1 : Lex [40] [[40]] := lex_one (by decide) (by decide)
          have h2 := lex_app (lex_app (lex_app h1 c1 (jn_l (nlT_one (by decide)))) (lex_gap u) (jn_r gap_hd)) (lex_one (c := 41) (by decide) (by decide)) (jn_r (nlH_cons (by decide)))
          rw [List.append_nil] at h2
          exact h2
  · have hn : ∀ cs, x ≠ .sum cs := fun cs e => hs ⟨cs, e⟩
    obtain ⟨tag, rest, htr, htag⟩ := tag_of hx hn
    obtain ⟨v, hv, e1⟩ := gap_ex ds k
    obtain ⟨T, l, k', f1, f2, f3, f4⟩ := hR hn (k + 1)
    rw [htr] at f1 ⊢
    have a0 : atI (dT tag :: rest) 0 = some (dT tag) := atI_nat (j := 0) rfl
    refine ⟨[40] ++ gapT v ++ T ++ [41], _, k', ?_, lex_par v f2, .par f3, by simp; omega⟩
    have z1 : 1 + v ≤ 16777216 := by omega
    have z2 : 1 + v + T.length ≤ 16777216 := by omega
    have z3 : 1 + v + T.length + 1 ≤ 16777216 := by omega
    have z4 : v + 1 ≤ 16777216 := by omega
    have z5 : v + 1 + T.length ≤ 16777216 := by omega
    have z6 : v + 1 + T.length + 1 ≤ 16777216 := by omega
    have z7 : v + T.length + 1 ≤ 16777216 := by omega
    have z8 : v + T.length + 1 + 1 ≤ 16777216 := by omega
    unfold F_law_factor_text
    simp -implicitDefEqProofs [wsum_tx, par_tx, cls_tx, a0, htag, e1, f1, z1, z2, z3, z4, z5, z6, z7, z8]
theorem Txt3.mono {ds : List Int} {F : FN} {kk d N d' N' : Nat} {x : Tr} (h : Txt3 ds F kk d N x) (h1 : d ≤ d') (h2 : N ≤ N') : Txt3 ds F kk d' N' x := fun k => by
  obtain ⟨T, l, k', a, b, c, e⟩ := h k
  exact ⟨T, l, k', a, b, c.mono h1, by omega⟩
theorem times_tx : Str.ofString "times" = tx [116, 105, 109, 101, 115] := by decide +kernel
theorem minus_tx : Str.ofString "minus" = tx [109, 105, 110, 117, 115] := by decide +kernel
theorem plus_tx : Str.ofString "plus" = tx [112, 108, 117, 115] := by decide +kernel
theorem less_tx : Str.ofString "less" = tx [108, 101, 115, 115] := by decide +kernel
theorem star_tx : Str.ofString "*" = tx [42] := by decide +kernel
theorem pls_tx : Str.ofString "+" = tx [43] := by decide +kernel
theorem mns_tx : Str.ofString "-" = tx [45] := by decide +kernel
theorem str_num {n : Nat} (h : n ≤ 1000) : strI (n : Int) = some (.val (dT (TL.numL n))) := by
  have := str_of (i := (n : Int)) (by rw [Int.natAbs_natCast]; omega)
  have ed : decL (n : Int) = TL.numL n := by unfold decL; rw [if_neg (by omega), Int.natAbs_natCast]
  rwa [ed] at this
theorem tag_all {ms : List Dim} {h : Nat} {x : Tr} (hx : GoodT ms h x) : ∃ (tag : List Nat) (rest : List D), trD x = .tup (dT tag :: rest) ∧ ((∀ n y, x ≠ .times n y) → tag ≠ [116, 105, 109, 101, 115]) ∧ ((∀ y, x ≠ .minus y) → tag ≠ [109, 105, 110, 117, 115]) ∧
    ((∀ y z, x ≠ .plus y z) → tag ≠ [112, 108, 117, 115]) ∧ ((∀ y z, x ≠ .less y z) → tag ≠ [108, 101, 115, 115]) := by
  cases hx with
  | sum => exact ⟨wSum, _, by rw [trD], fun _ => by decide, fun _ => by decide, fun _ => by decide, fun _ => by decide⟩
  | times => exact ⟨_, _, by rw [trD, times_tx], fun h => absurd rfl (h _ _), fun _ => by decide, fun _ => by decide, fun _ => by decide⟩
  | minus => exact ⟨_, _, by rw [trD, minus_tx], fun _ => by decide, fun h => absurd rfl (h _), fun _ => by decide, fun _ => by decide⟩
  | plus => exact ⟨_, _, by rw [trD, plus_tx], fun _ => by decide, fun _ => by decide, fun h => absurd rfl (h _ _), fun _ => by decide⟩
  | less => exact ⟨_, _, by rw [trD, less_tx], fun _ => by decide, fun _ => by decide, fun _ => by decide, fun h => absurd rfl (h _ _)⟩
theorem lex_num (n : Nat) : Lex (TL.numL n) [TL.numL n] := by
  have := Lex.num (u := TL.numL n) (t := []) (ws := []) (TL.numL_ne n) (fun c hc => dgt_iff.mpr (by have := TL.numL_digits n c hc; omega)) trivial .nil
  rwa [List.append_nil] at this
theorem term_ex {ds : List Int} {R : FN} {ms : List Dim} (g : GoodD ms) {h d N : Nat} {x : Tr} (hx : GoodT ms h x) (hRy : ∀ n y, x = .times n y → (∀ cs, y ≠ .sum cs) → Txt3 ds R 2 d N y) (hRx : (∀ cs, x ≠ .sum cs) → (∀ n y, x ≠ .times n y) → Txt3 ds R 2 d N x) (hN : N ≤ 900000) : Txt3 ds (F_law_term_text R) 1 (d + 1) (N + 600) x := by
  intro k
  by_cases ht : ∃ n y, x = .times n y
  · obtain ⟨n, y, rfl⟩ := ht
    cases hx with
    | times hn hy =>
      obtain ⟨v, hv, e1⟩ := gap_ex ds k
      obtain ⟨u, hu, e2⟩ := gap_ex ds (k + 1)
      obtain ⟨T, l, k', f1, f2, f3, f4⟩ := factor_ex g hy (hRy n y rfl) (by omega) (k + 1 + 1)
      have hs := str_num hn
      have hnl := numL_len 3 n (by omega)
      have a0 : ∀ x y z : D, atI [x, y, z] 0 = some x := fun x y z => atI_nat (j := 0) rfl
      have a1 : ∀ x y z : D, atI [x, y, z] 1 = some y := fun x y z => atI_nat (j := 1) rfl
      have a2 : ∀ x y z : D, atI [x, y, z] 2 = some z := fun x y z => atI_nat (j := 2) rfl
      have hlx := lex_num n
      have hNL : ∃ L, (TL.numL n).length = L := ⟨_, rfl⟩
      obtain ⟨L, hL⟩ := hNL
      refine ⟨TL.numL n ++ gapT v ++ [42] ++ gapT u ++ T, TL.numL n :: [42] :: l, k', ?_, ?_, .times hn f3, by simp only [List.length_append, List.length_replicate, List.length_singleton]; omega⟩
      · rw [trD, times_tx]
        rw [hL] at hnl
        have z1 : L + v ≤ 16777216 := by omega
        have z2 : L + v + 1 ≤ 16777216 := by omega
        have z3 : L + v + 1 + u ≤ 16777216 := by omega
        have z4 : L + v + 1 + u + T.length ≤ 16777216 := by omega
        have z5 : L + (v + 1) ≤ 16777216 := by omega
        have z6 : L + (v + (u + 1)) ≤ 16777216 := by omega
        have z7 : L + (v + 1) + u ≤ 16777216 := by omega
        have z8 : L + (v + (u + 1)) + T.length ≤ 16777216 := by omega
        have z9 : L + (v + 1) + u + T.length ≤ 16777216 := by omega
        have z10 : L + (v + (1 + u)) + T.length ≤ 16777216 := by omega
        unfold F_law_term_text
        simp -implicitDefEqProofs [times_tx, star_tx, a0, a1, a2, hs, e1, e2, f1, hL, z1, z2, z3, z4, z5, z6, z7, z8, z9, z10]
      · have h1 := lex_gapR v hlx
        have h2 := lex_app h1 (lex_one (c := 42) (by decide) (by decide)) (jn_r (nlH_cons (by decide)))
        have h3 := lex_gapR u h2
        exact lex_app h3 f2 (jn_l (nlT_app (fun c e => by
          rw [List.getLast?_append] at e
          have e : some 42 = some c := e
          cases e
          exact (show nl 42 by decide)) gap_tl))
  · have hn : ∀ n y, x ≠ .times n y := fun n y e => ht ⟨n, y, e⟩
    obtain ⟨tag, rest, htr, htag, _⟩ := tag_all hx
    have htag := htag hn
    obtain ⟨T, l, k', f1, f2, f3, f4⟩ := factor_ex g hx (fun h => hRx h hn) (by omega) k
    refine ⟨T, l, k', ?_, f2, .fac f3, by omega⟩
    rw [htr] at f1 ⊢
    have a0 : atI (dT tag :: rest) 0 = some (dT tag) := atI_nat (j := 0) rfl
    unfold F_law_term_text
    simp -implicitDefEqProofs [times_tx, a0, htag, f1]
abbrev Bd (h : Nat) : Nat := 2000 * 4 ^ h
theorem Bd_step {h : Nat} (hh : h ≤ 3) : 2 * Bd h + 700 ≤ Bd (h + 1) ∧ Bd h ≤ 128000 := by
  have : h = 0 ∨ h = 1 ∨ h = 2 ∨ h = 3 := by omega
  rcases this with rfl | rfl | rfl | rfl <;> decide
theorem tree_text_ex {ds : List Int} {ms : List Dim} (g : GoodD ms) : ∀ (n h : Nat) (x : Tr), GoodT ms h x → h < n → h ≤ 4 → Txt3 ds (F_law_tree_text n) 2 (h + 1) (Bd h) x
  | 0, h, x, _, hn, _ => by omega
  | n + 1, h, x, hx, hn, h4 => by
    intro k
    show ∃ T l k', F_law_tree_text_b (F_law_tree_text n) _ = _ ∧ _
    have a0 : ∀ x y z : D, atI [x, y, z] 0 = some x := fun x y z => atI_nat (j := 0) rfl
    have a1 : ∀ x y z : D, atI [x, y, z] 1 = some y := fun x y z => atI_nat (j := 1) rfl
    have a2 : ∀ x y z : D, atI [x, y, z] 2 = some z := fun x y z => atI_nat (j := 2) rfl
    have term : ∀ {h' : Nat} {y : Tr}, GoodT ms h' y → h' < n → h' ≤ 3 → Txt3 ds (F_law_term_text (F_law_tree_text n)) 1 (h' + 1 + 1) (Bd h' + 600) y := fun {h' y} hy hlt h3 => by
      have hb := (Bd_step h3).2
      refine term_ex g hy (fun m z e hz => ?_) (fun _ _ => tree_text_ex g n h' y hy hlt (by omega)) (by omega)
      subst e
      cases hy with
      | times hm hz' =>
        rename_i h''
        refine (tree_text_ex g n h'' z hz' (by omega) (by omega)).mono (by omega) ?_
        have := (Bd_step (h := h'') (by omega)).1
        omega
    cases hx with
    | sum hc hl hnd =>
      rename_i cs
      obtain ⟨T, l, k', f1, f2, f3, f4⟩ := term_ex (ds := ds) (R := F_law_tree_text n) (d := h) (N := 0) g (GoodT.sum (h := h) hc hl hnd) (fun m z e => by cases e) (fun h => absurd rfl (h _)) (by omega) k
      have hb : 2000 ≤ Bd h := Nat.le_mul_of_pos_right _ (Nat.pow_pos (by decide))
      refine ⟨T, l, k', ?_, f2, .term f3, by omega⟩
      rw [trD] at f1 ⊢
      generalize (cs.map toC).map cndD = L at f1 ⊢
      have b0 : ∀ x y : D, atI [x, y] 0 = some x := fun x y => atI_nat (j := 0) rfl
      have w1 : ¬ (wSum = [112, 108, 117, 115]) := by decide
      have w2 : ¬ (wSum = [108, 101, 115, 115]) := by decide
      have w3 : ¬ (wSum = [109, 105, 110, 117, 115]) := by decide
      unfold F_law_tree_text_b
      simp -implicitDefEqProofs [plus_tx, less_tx, minus_tx, b0, w1, w2, w3, f1]
    | times hn' hy =>
      rename_i h' m y
      have hb := Bd_step (h := h') (by omega)
      obtain ⟨T, l, k', f1, f2, f3, f4⟩ := term_ex (ds := ds) (R := F_law_tree_text n) (d := h' + 1) (N := Bd h') g (GoodT.times hn' hy) (fun m' z e hz => by
        cases e
        exact tree_text_ex g n h' _ hy (by omega) (by omega)) (fun _ h => absurd rfl (h _ _)) (by omega) k
      refine ⟨T, l, k', ?_, f2, .term f3, by omega⟩
      rw [trD, times_tx] at f1 ⊢
      unfold F_law_tree_text_b
      simp -implicitDefEqProofs [plus_tx, less_tx, minus_tx, a0, f1]
    | minus hy =>
      rename_i h' y
      have hb := Bd_step (h := h') (by omega)
      obtain ⟨v, hv, e1⟩ := gap_ex ds k
      obtain ⟨T, l, k', f1, f2, f3, f4⟩ := term hy (by omega) (by omega) (k + 1)
      refine ⟨[45] ++ gapT v ++ T, _, k', ?_, lex_app (lex_gapR v (lex_one (c := 45) (by decide) (by decide))) f2 (jn_l (nlT_app (nlT_one (by decide)) gap_tl)), .minus f3, by simp only [List.length_append, List.length_replicate, List.length_singleton]; omega⟩
      rw [trD, minus_tx]
      have b0 : ∀ x y : D, atI [x, y] 0 = some x := fun x y => atI_nat (j := 0) rfl
      have b1 : ∀ x y : D, atI [x, y] 1 = some y := fun x y => atI_nat (j := 1) rfl
      have z1 : 1 + v ≤ 16777216 := by omega
      have z2 : 1 + v + T.length ≤ 16777216 := by omega
      have z3 : v + 1 ≤ 16777216 := by omega
      have z4 : v + 1 + T.length ≤ 16777216 := by omega
      unfold F_law_tree_text_b
      simp -implicitDefEqProofs [plus_tx, less_tx, minus_tx, mns_tx, b0, b1, e1, f1, z1, z2, z3, z4]
    | plus hy hz =>
      rename_i h' y w
      have hb := Bd_step (h := h') (by omega)
      obtain ⟨S, m, k1, p1, p2, p3, p4⟩ := tree_text_ex (ds := ds) g n h' y hy (by omega) (by omega) k
      obtain ⟨v, hv, e1⟩ := gap_ex ds k1
      obtain ⟨u, hu, e2⟩ := gap_ex ds (k1 + 1)
      obtain ⟨T, l, k', f1, f2, f3, f4⟩ := term hz (by omega) (by omega) (k1 + 1 + 1)
      refine ⟨S ++ gapT v ++ [43] ++ gapT u ++ T, m ++ [43] :: l, k', ?_, ?_, .plus (p3.mono (by omega)) f3, by simp only [List.length_append, List.length_replicate, List.length_singleton]; omega⟩
      · rw [trD, plus_tx]
        have z1 : S.length + v ≤ 16777216 := by omega
        have z2 : S.length + (v + 1) ≤ 16777216 := by omega
        have z3 : S.length + (v + 1) + u ≤ 16777216 := by omega
        have z4 : S.length + (v + (u + 1)) ≤ 16777216 := by omega
        have z5 : S.length + (v + (u + 1)) + T.length ≤ 16777216 := by omega
        have z6 : S.length + (v + 1) + u + T.length ≤ 16777216 := by omega
        have z7 : S.length + v + 1 ≤ 16777216 := by omega
        have z8 : S.length + v + 1 + u ≤ 16777216 := by omega
        have z9 : S.length + v + 1 + u + T.length ≤ 16777216 := by omega
        unfold F_law_tree_text_b
        simp -implicitDefEqProofs [plus_tx, less_tx, minus_tx, pls_tx, a0, a1, a2, p1, e1, e2, f1, z1, z2, z3, z4, z5, z6, z7, z8, z9]
      · have h1 := lex_gapR v p2
        have h2 := lex_app h1 (lex_one (c := 43) (by decide) (by decide)) (jn_r (nlH_cons (by decide)))
        have h3 := lex_gapR u h2
        have h4 := lex_app h3 f2 (jn_l (nlT_app (fun c e => by
          rw [List.getLast?_append] at e
          have e : some 43 = some c := e
          cases e
          exact (show nl 43 by decide)) gap_tl))
        rw [List.append_assoc m] at h4
        exact h4
    | less hy hz =>
      rename_i h' y w
      have hb := Bd_step (h := h') (by omega)
      obtain ⟨S, m, k1, p1, p2, p3, p4⟩ := tree_text_ex (ds := ds) g n h' y hy (by omega) (by omega) k
      obtain ⟨v, hv, e1⟩ := gap_ex ds k1
      obtain ⟨u, hu, e2⟩ := gap_ex ds (k1 + 1)
      obtain ⟨T, l, k', f1, f2, f3, f4⟩ := term hz (by omega) (by omega) (k1 + 1 + 1)
      refine ⟨S ++ gapT v ++ [45] ++ gapT u ++ T, m ++ [45] :: l, k', ?_, ?_, .less (p3.mono (by omega)) f3, by simp only [List.length_append, List.length_replicate, List.length_singleton]; omega⟩
      · rw [trD, less_tx]
        have z1 : S.length + v ≤ 16777216 := by omega
        have z2 : S.length + (v + 1) ≤ 16777216 := by omega
        have z3 : S.length + (v + 1) + u ≤ 16777216 := by omega
        have z4 : S.length + (v + (u + 1)) ≤ 16777216 := by omega
        have z5 : S.length + (v + (u + 1)) + T.length ≤ 16777216 := by omega
        have z6 : S.length + (v + 1) + u + T.length ≤ 16777216 := by omega
        have z7 : S.length + v + 1 ≤ 16777216 := by omega
        have z8 : S.length + v + 1 + u ≤ 16777216 := by omega
        have z9 : S.length + v + 1 + u + T.length ≤ 16777216 := by omega
        unfold F_law_tree_text_b
        simp -implicitDefEqProofs [plus_tx, less_tx, minus_tx, mns_tx, a0, a1, a2, p1, e1, e2, f1, z1, z2, z3, z4, z5, z6, z7, z8, z9]
      · have h1 := lex_gapR v p2
        have h2 := lex_app h1 (lex_one (c := 45) (by decide) (by decide)) (jn_r (nlH_cons (by decide)))
        have h3 := lex_gapR u h2
        have h4 := lex_app h3 f2 (jn_l (nlT_app (fun c e => by
          rw [List.getLast?_append] at e
          have e : some 45 = some c := e
          cases e
          exact (show nl 45 by decide)) gap_tl))
        rw [List.append_assoc m] at h4
        exact h4
end VL
set_option Elab.async false
set_option linter.all false
set_option maxRecDepth 100000
set_option maxHeartbeats 4000000
namespace VL
open PySem PySem.Spec PyProof.Rows L2
noncomputable def B_law_k09_1 : MS := (mKill [2, 3, 4] (mSeq (mSet 3 (mCallT (F_law_tree 5) (mCall F_law_box (mCons (mName 0) (mCons (mOp fAdd (mC (.int 5)) (mName 2)) mNil))) (mCons (mName 1) (mCons (mOp fAdd (mC (.int 1)) (mName 2)) mNil))))
    (mSeq (mSet 4 (mCallT (F_law_tree_text 5) (mCall F_law_box (mCons (mName 0) (mCons (mOp fAdd (mC (.int 9)) (mName 2)) mNil))) (mCons (mName 3) mNil)))
    (mIfS (mAndT (mTst (mOp fLe (mCB fLen (mCons (mName 4) mNil)) (mC (.int 300)))) (mNotT (mTst (mCall (F_law_same 10) (mCons (mCall F_read_expression_2 (mCons (mName 4) mNil)) (mCons (mName 3) mNil)))))) (mRet [] (mC (.bl false))) mNext))))
noncomputable def F_law_k09 : FN := fnM 1 5 [] (mSeq (mSet 1 (mCall F_law_wide (mCons (mName 0) (mCons (mC (.int 0)) (mCons (mC (.int 48)) mNil)))))
    (mSeq (mFor (mRng (mCons (mC (.int 3)) mNil)) (gmName 2) B_law_k09_1)
    (mRet [] (mC (.bl true)))))
variable [CM]
theorem lex_size {T : List Nat} {l : List Tok} (h : Lex T l) : l.length ≤ T.length ∧ ∀ w ∈ l, w.length ≤ T.length := by
  induction h with
  | nil => exact ⟨Nat.le_refl _, by simp⟩
  | blank h ih => exact ⟨by simp; omega, fun w hw => by have := ih.2 w hw; simp; omega⟩
  | word hu hl ht h ih =>
    rename_i u t ws
    have : 0 < u.length := List.length_pos_iff.mpr hu
    refine ⟨by simp; omega, fun w hw => ?_⟩
    rcases List.mem_cons.mp hw with rfl | hw
    · simp
    · have := ih.2 w hw; simp; omega
  | num hu hl ht h ih =>
    rename_i u t ws
    have : 0 < u.length := List.length_pos_iff.mpr hu
    refine ⟨by simp; omega, fun w hw => ?_⟩
    rcases List.mem_cons.mp hw with rfl | hw
    · simp
    · have := ih.2 w hw; simp; omega
  | sign h0 h1 h2 h ih =>
    refine ⟨by simp; omega, fun w hw => ?_⟩
    rcases List.mem_cons.mp hw with rfl | hw
    · simp
    · have := ih.2 w hw; simp; omega
theorem due_str (n : Nat) (x : Str) : dueOk n (.str x) := by cases n <;> trivial
theorem due_int (n : Nat) (x : Int) : dueOk n (.int x) := by cases n <;> trivial
theorem due_tree {ms : List Dim} {h : Nat} {x : Tr} (hx : GoodT ms h x) : ∀ n, h + 4 ≤ n → dueOk n (trD x) := by
  induction hx with
  | sum hc hl hnd =>
    rename_i h cs
    intro n hn
    obtain ⟨n, rfl⟩ : ∃ m, n = m + 4 := ⟨n - 4, by omega⟩
    rw [trD]
    refine ⟨by simp, ?_⟩
    simp only [List.mem_cons, List.not_mem_nil, or_false]
    rintro d (rfl | rfl)
    · exact due_str _ _
    refine ⟨by simp; omega, ?_⟩
    intro d hd
    rw [List.map_map] at hd
    obtain ⟨c, hcm, rfl⟩ := List.mem_map.mp hd
    refine ⟨by simp, ?_⟩
    simp only [List.mem_cons, List.not_mem_nil, or_false]
    rintro d (rfl | rfl)
    · exact due_str _ _
    have := (hc c hcm).few
    refine ⟨by simp [toC]; omega, ?_⟩
    intro d hd
    obtain ⟨p, _, rfl⟩ := List.mem_map.mp hd
    exact due_str _ _
  | times hn _ ih =>
    intro n hn
    obtain ⟨n, rfl⟩ : ∃ m, n = m + 1 := ⟨n - 1, by omega⟩
    rw [trD]
    refine ⟨by simp, ?_⟩
    simp only [List.mem_cons, List.not_mem_nil, or_false]
    rintro d (rfl | rfl | rfl)
    · exact due_str _ _
    · exact due_int _ _
    · exact ih n (by omega)
  | minus _ ih =>
    intro n hn
    obtain ⟨n, rfl⟩ : ∃ m, n = m + 1 := ⟨n - 1, by omega⟩
    rw [trD]
    refine ⟨by simp, ?_⟩
    simp only [List.mem_cons, List.not_mem_nil, or_false]
    rintro d (rfl | rfl)
    · exact due_str _ _
    · exact ih n (by omega)
  | plus _ _ i1 i2 =>
    intro n hn
    obtain ⟨n, rfl⟩ : ∃ m, n = m + 1 := ⟨n - 1, by omega⟩
    rw [trD]
    refine ⟨by simp, ?_⟩
    simp only [List.mem_cons, List.not_mem_nil, or_false]
    rintro d (rfl | rfl | rfl)
    · exact due_str _ _
    · exact i1 n (by omega)
    · exact i2 n (by omega)
  | less _ _ i1 i2 =>
    intro n hn
    obtain ⟨n, rfl⟩ : ∃ m, n = m + 1 := ⟨n - 1, by omega⟩
    rw [trD]
    refine ⟨by simp, ?_⟩
    simp only [List.mem_cons, List.not_mem_nil, or_false]
    rintro d (rfl | rfl | rfl)
    · exact due_str _ _
    · exact i1 n (by omega)
    · exact i2 n (by omega)
theorem law_true (ns : List Int) (hl : ns.length ≤ 63) : ∃ outs, F_law_k09 [.val (.scr (ns.map D.int))] = .ok (.val (.bl true)) outs := by
  obtain ⟨ms, g, e⟩ := law_wide_ex ns 0 48 ⟨by decide, by decide⟩
  have e : F_law_wide [.val (.scr (ns.map D.int)), .val (.int 0), .val (.int 48)] = .ok (.val (.tup (ms.map Dim.d))) [.val (.scr (ns.map D.int)), .val (.int 0), .val (.int 48)] := e
  have turn : ∀ k : Nat, k < 3 → turnM (gmName 2) B_law_k09_1 (.int (k : Nat)) [some (.val (.scr (ns.map D.int))), some (.val (.tup (ms.map Dim.d))), none, none, none] = .nx [some (.val (.scr (ns.map D.int))), some (.val (.tup (ms.map Dim.d))), none, none, none] := by
    intro k hk
    obtain ⟨d1, _, b1⟩ := law_box_ex ns (k := 5 + (k : Int)) (by omega)
    obtain ⟨d2, _, b2⟩ := law_box_ex ns (k := 9 + (k : Int)) (by omega)
    obtain ⟨x, k1, hx, t1⟩ := tree_ex g d1 5 (1 + k) 0 (by omega)
    have t1 : F_law_tree 5 [.own (boxD d1 0), .val (.tup (ms.map Dim.d)), .val (.int (1 + (k : Int)))] = .ok (.val (trD x)) [.own (boxD d1 k1), .val (.tup (ms.map Dim.d)), .val (.int (1 + (k : Int)))] := t1
    obtain ⟨T, l, k2, f1, f2, f3, f4⟩ := tree_text_ex (ds := d2) g 5 (1 + k) x hx (by omega) (by omega) 0
    have hTz : T.length ≤ 16777216 := by
      have : k = 0 ∨ k = 1 ∨ k = 2 := by omega
      rcases this with rfl | rfl | rfl <;> (simp only [Bd] at f4; omega)
    by_cases h3 : T.length ≤ 300
    · have h3i : (T.length : Int) ≤ 300 := by omega
      obtain ⟨s1, s2⟩ := lex_size f2
      have hrd := read_eq f2 (by omega) ⟨by omega, fun w hw => by have := s2 w hw; omega⟩
      rw [wr_read f3 (by omega)] at hrd
      have hrd : F_read_expression_2 [.val (dT T)] = .ok (.val (trD x)) [.val (dT T)] := hrd
      have hsm := same_eq 9 (trD x) (due_tree hx 9 (by omega))
      simp -implicitDefEqProofs [B_law_k09_1, b1, t1, b2, f1, hTz, h3, h3i, hrd, hsm]
    · have h3i : ¬ ((T.length : Int) ≤ 300) := by omega
      simp -implicitDefEqProofs [B_law_k09_1, b1, t1, b2, f1, hTz, h3, h3i]
  have hlp := loop_const (g := gmName 2) (b := B_law_k09_1) (e := [some (.val (.scr (ns.map D.int))), some (.val (.tup (ms.map Dim.d))), none, none, none]) (fun k : Nat => D.int k) (List.range 3) (fun k hk => turn k (List.mem_range.mp hk))
  have hrg : rng1 3 = some ((List.range 3).map fun k : Nat => D.int k) := rng1_nat (n := 3) (by omega)
  simp -implicitDefEqProofs [F_law_k09, e]
  rw [hlp]
  simp -implicitDefEqProofs
end VL
set_option Elab.async false
set_option linter.all false
set_option maxRecDepth 100000
set_option maxHeartbeats 4000000
namespace K09
open PySem PySem.Spec PyProof.Rows L2 VL
variable [CM]
def topS (i : Nat) : Stmt := PySem.Challenge.pw_cubesums_k09_expressions_read.main.body.getD i (.Pass ⟨0, 0, 0, 0⟩)
section
variable {P : Program} {w : World} {K : PySem.W.Frag} {mg : Str → Option Value} {base : Heap}
abbrev sLawDigits : Stmt := topS 17
theorem scLawDigits : FnScope ["_law_cell_here", "_law_at", "_law_digits_here", "_law_turn", "_law_seed"] ["_law_cell_here", "_law_at"] (defScope sLawDigits) := ⟨rfl, rfl, rfl, by decide +kernel, rfl, by decide +kernel, by decide +kernel⟩
theorem okLawDigits {f : Addr} {fd : FuncData} {k : Nat} {T : List Addr}
    (FB : FunB K mg "_law_digits" sLawDigits ["_law_cell_here", "_law_at"] f fd)
    (m_range : mg "range" = none)
    (m_int : mg "int" = none) : Callee P w K mg base T "_law_digits" (k + 1) ["_law_cell_here", "_law_at"] (spF F_law_digits) f fd := by
  have nd := scLawDigits.nd
  exact fl_fn 2 5 _ rfl FB scLawDigits rfl rfl (by decide) (fun cdv A outer s H E hr => ⟨_, (fss_cons (fst_own 2 nd (fe_lst fa_nil))
      (fss_cons (fst_if (ft_lt (fe_name 0) fe_int) (fss_one (fst_set 0 nd (fe_sub fe_int (fe_mul fe_int (fe_name 0))))) fss_nil)
      (fss_cons (fst_kill [0, 3, 4] (fst_if (ft_ge (fe_name 0) (fe_pow fe_int fe_int)) (fss_one (fst_kill [0] (fst_for (passes_of rfl) (fi_range1 m_range fe_int) (fg_name 3 nd) (fss_kill [3] (fss_one (fst_if (ft_gt (fe_name 0) fe_int) (fss_cons (fst_expr (fe_append (fe_name 2) (fe_mod (fe_intc m_int (fa_cons (fe_name 0) fa_nil)) fe_int)))
      (fss_one (fst_set 0 nd (fe_div (fe_name 0) fe_int)))) fss_nil)))))) (fss_cons (fst_set 4 nd (fe_mod (fe_intc m_int (fa_cons (fe_add (fe_add (fe_mul (fe_name 0) fe_int) (fe_mul (fe_name 1) fe_int)) fe_int) fa_nil)) fe_int))
      (fss_one (fst_kill [4] (fst_for (passes_of rfl) (fi_range1 m_range fe_int) (fg_name 3 nd) (fss_kill [3] (fss_cons (fst_set 4 nd (fe_mod (fe_intc m_int (fa_cons (fe_add (fe_add (fe_mul (fe_name 4) fe_int) (fe_mul fe_int (fe_name 3))) fe_int) fa_nil)) fe_int))
      (fss_one (fst_expr (fe_append (fe_name 2) (fe_mod (fe_intc m_int (fa_cons (fe_div (fe_name 4) fe_int) fa_nil)) fe_int))))))))))))
      (fss_one (fst_ret (fe_name 2))))))⟩)
abbrev sLawCell : Stmt := topS 16
theorem scLawCell : FnScope ["_law_script", "_law_k"] ["_law_script", "_law_k"] (defScope sLawCell) := ⟨rfl, rfl, rfl, by decide +kernel, rfl, by decide +kernel, by decide +kernel⟩
theorem okLawCell {f : Addr} {fd : FuncData} {k : Nat} {T : List Addr}
    (FB : FunB K mg "_law_cell" sLawCell ["_law_script", "_law_k"] f fd)
    (m_len : mg "len" = none)
    (m_int : mg "int" = none) : Callee P w K mg base T "_law_cell" (k + 1) ["_law_script", "_law_k"] (spF F_law_cell) f fd := by
  have nd := scLawCell.nd
  exact fl_fn 2 2 _ rfl FB scLawCell rfl rfl (by decide) (fun cdv A outer s H E hr => ⟨_, (fss_cons (fst_if (ft_lt (fe_name 1) (fe_len m_len (fa_cons (fe_name 0) fa_nil))) (fss_one (fst_ret (fe_intc m_int (fa_cons (fe_ix (fe_name 0) (fe_name 1)) fa_nil)))) fss_nil)
      (fss_one (fst_ret fe_int)))⟩)
abbrev sLawBox : Stmt := topS 18
theorem scLawBox : FnScope ["_law_script", "_law_at"] ["_law_script", "_law_at"] (defScope sLawBox) := ⟨rfl, rfl, rfl, by decide +kernel, rfl, by decide +kernel, by decide +kernel⟩
theorem okLawBox {f : Addr} {fd : FuncData} {k : Nat} {T : List Addr}
    (FB : FunB K mg "_law_box" sLawBox ["_law_script", "_law_at"] f fd)
    {fLawDigits : Addr} {fdLawDigits : FuncData} (C__law_digits : Callee P w K mg base T "_law_digits" k ["_law_cell_here", "_law_at"] (spF F_law_digits) fLawDigits fdLawDigits)
    {fLawCell : Addr} {fdLawCell : FuncData} (C__law_cell : Callee P w K mg base T "_law_cell" k ["_law_script", "_law_k"] (spF F_law_cell) fLawCell fdLawCell) : Callee P w K mg base T "_law_box" (k + 1) ["_law_script", "_law_at"] (spF F_law_box) f fd := by
  have nd := scLawBox.nd
  exact fl_fn 2 2 _ rfl FB scLawBox rfl rfl (by decide) (fun cdv A outer s H E hr => ⟨_, (fss_one (fst_ret (fe_lst (fa_cons (fe_fn C__law_digits hr (L2N.takes_of rfl rfl rfl rfl) (fa_cons (fe_fn C__law_cell hr (L2N.takes_of rfl rfl rfl rfl) (fa_cons (fe_name 0) (fa_cons (fe_name 1) fa_nil))) (fa_cons (fe_name 1) fa_nil))) (fa_cons fe_int fa_nil)))))⟩)
abbrev sLawDraw : Stmt := topS 19
theorem scLawDraw : FnScope ["_law_box_here", "_law_many", "_law_at"] ["_law_box_here", "_law_many"] (defScope sLawDraw) := ⟨rfl, rfl, rfl, by decide +kernel, rfl, by decide +kernel, by decide +kernel⟩
theorem okLawDraw {f : Addr} {fd : FuncData} {k : Nat} {T : List Addr}
    (FB : FunB K mg "_law_draw" sLawDraw ["_law_box_here", "_law_many"] f fd)
    (m_len : mg "len" = none)
    (m_int : mg "int" = none) : Callee P w K mg base T "_law_draw" (k + 1) ["_law_box_here", "_law_many"] (spF F_law_draw) f fd := by
  have nd := scLawDraw.nd
  exact fl_fn 2 3 _ rfl FB scLawDraw rfl rfl (by decide) (fun cdv A outer s H E hr => ⟨_, (fss_cons (fst_set 2 nd (fe_ix (fe_name 0) fe_int))
      (fss_cons (fst_asg (fe_add (fe_name 2) fe_int) (fg_sub (fe_name 0) fe_int))
      (fss_cons (fst_if (ft_lt (fe_name 2) (fe_len m_len (fa_cons (fe_ix (fe_name 0) fe_int) fa_nil))) (fss_one (fst_ret (fe_mod (fe_intc m_int (fa_cons (fe_ix (fe_ix (fe_name 0) fe_int) (fe_name 2)) fa_nil)) (fe_name 1)))) fss_nil)
      (fss_one (fst_ret fe_int)))))⟩)
abbrev sLawWord : Stmt := topS 22
theorem scLawWord : FnScope ["_law_box_here", "_law_taken", "_law_marks", "_law_turn", "_law_word_here", "_law_k", "_law_mark"] ["_law_box_here", "_law_taken"] (defScope sLawWord) := ⟨rfl, rfl, rfl, by decide +kernel, rfl, by decide +kernel, by decide +kernel⟩
theorem okLawWord {f : Addr} {fd : FuncData} {k : Nat} {T : List Addr}
    (FB : FunB K mg "_law_word" sLawWord ["_law_box_here", "_law_taken"] f fd)
    {fLawDraw : Addr} {fdLawDraw : FuncData} (C__law_draw : Callee P w K mg base T "_law_draw" k ["_law_box_here", "_law_many"] (spF F_law_draw) fLawDraw fdLawDraw)
    (m_range : mg "range" = none) : Callee P w K mg base T "_law_word" (k + 1) ["_law_box_here", "_law_taken"] (spF F_law_word) f fd := by
  have nd := scLawWord.nd
  exact fl_fn 2 7 _ rfl FB scLawWord rfl rfl (by decide) (fun cdv A outer s H E hr => ⟨_, (fss_cons (fst_set 2 nd fe_str)
      (fss_cons (fst_for (passes_of rfl) (fi_range1 m_range fe_int) (fg_name 3 nd) (fss_kill [3, 4, 5] (fss_cons (fst_set 4 nd fe_str)
      (fss_cons (fst_for (passes_of rfl) (fi_range1 m_range (fe_add fe_int (fe_mul (fe_fn C__law_draw hr (L2N.takes_of rfl rfl rfl rfl) (fa_cons (fe_name 0) (fa_cons fe_int fa_nil))) (fe_fn C__law_draw hr (L2N.takes_of rfl rfl rfl rfl) (fa_cons (fe_name 0) (fa_cons fe_int fa_nil)))))) (fg_name 5 nd) (fss_kill [5] (fss_one (fst_set 4 nd (fe_add (fe_name 4) (fe_ix (fe_name 2) (fe_fn C__law_draw hr (L2N.takes_of rfl rfl rfl rfl) (fa_cons (fe_name 0) (fa_cons fe_int fa_nil)))))))))
      (fss_one (fst_if (FW.ft (fw_and (ft_nin (ru65 hr) (fe_name 4) (fe_name 1)) (fw_and1 (ft_nin (ru65 hr) (fe_name 4) (fe_tup (fa_cons fe_str (fa_cons fe_str (fa_cons fe_str (fa_cons fe_str fa_nil))))))))) (fss_one (fst_ret (fe_name 4))) fss_nil))))))
      (fss_cons (fst_for (passes_of rfl) (fi_seq (fe_name 2)) (fg_name 6 nd) (fss_kill [6] (fss_one (fst_if (ft_nin (ru65 hr) (fe_name 6) (fe_name 1)) (fss_one (fst_ret (fe_name 6))) fss_nil))))
      (fss_one (fst_ret fe_str)))))⟩)
abbrev sLawPlainLeaves : Stmt := topS 26
theorem scLawPlainLeaves : FnScope ["_law_depth", "_law_many", "_law_marks", "_law_heads", "_law_others", "_law_rows", "_law_k"] ["_law_depth", "_law_many"] (defScope sLawPlainLeaves) := ⟨rfl, rfl, rfl, by decide +kernel, rfl, by decide +kernel, by decide +kernel⟩
theorem okLawPlainLeaves {f : Addr} {fd : FuncData} {k : Nat} {T : List Addr}
    (FB : FunB K mg "_law_plain_leaves" sLawPlainLeaves ["_law_depth", "_law_many"] f fd)
    (m_tuple : mg "tuple" = none)
    (m_range : mg "range" = none) : Callee P w K mg base T "_law_plain_leaves" (k + 1) ["_law_depth", "_law_many"] (spF F_law_plain_leaves) f fd := by
  have nd := scLawPlainLeaves.nd
  exact fl_fn 2 7 _ rfl FB scLawPlainLeaves rfl rfl (by decide) (fun cdv A outer s H E hr => ⟨_, (fss_cons (fst_set 2 nd fe_str)
      (fss_cons (fst_set 3 nd (fe_tup (fa_cons fe_str (fa_cons fe_str (fa_cons fe_str fa_nil)))))
      (fss_cons (fst_set 4 nd (fe_tup (fa_cons fe_str (fa_cons fe_str (fa_cons fe_str fa_nil)))))
      (fss_cons (fst_own 5 nd (fe_lst fa_nil))
      (fss_cons (fst_for (passes_of rfl) (fi_range1 m_range (fe_name 1)) (fg_name 6 nd) (fss_kill [6] (fss_one (fst_if (ft_lt (fe_mul fe_int (fe_name 6)) (fe_name 1)) (fss_one (fst_expr (fe_append (fe_name 5) (fe_add (fe_ix (fe_name 3) (fe_sub (fe_name 0) fe_int)) (fe_ix (fe_name 2) (fe_name 6)))))) (fss_one (fst_expr (fe_append (fe_name 5) (fe_add (fe_ix (fe_name 4) (fe_sub (fe_name 0) fe_int)) (fe_ix (fe_name 2) (fe_name 6))))))))))
      (fss_one (fst_ret (fe_tuplec m_tuple (fa_cons (fe_name 5) fa_nil)))))))))⟩)
abbrev sLawLeaves : Stmt := topS 23
theorem scLawLeaves : FnScope ["_law_box_here", "_law_depth", "_law_many", "_law_pools", "_law_level_here", "_law_words", "_law_k", "_law_paths", "_law_turn", "_law_path", "_law_pool", "_law_word_here"] ["_law_box_here", "_law_depth", "_law_many"] (defScope sLawLeaves) := ⟨rfl, rfl, rfl, by decide +kernel, rfl, by decide +kernel, by decide +kernel⟩
theorem okLawLeaves {f : Addr} {fd : FuncData} {k : Nat} {T : List Addr}
    (FB : FunB K mg "_law_leaves" sLawLeaves ["_law_box_here", "_law_depth", "_law_many"] f fd)
    {fLawDraw : Addr} {fdLawDraw : FuncData} (C__law_draw : Callee P w K mg base T "_law_draw" k ["_law_box_here", "_law_many"] (spF F_law_draw) fLawDraw fdLawDraw)
    {fLawWord : Addr} {fdLawWord : FuncData} (C__law_word : Callee P w K mg base T "_law_word" k ["_law_box_here", "_law_taken"] (spF F_law_word) fLawWord fdLawWord)
    (m_sorted : mg "sorted" = none)
    (m_tuple : mg "tuple" = none)
    (m_len : mg "len" = none)
    (m_range : mg "range" = none) : Callee P w K mg base T "_law_leaves" (k + 1) ["_law_box_here", "_law_depth", "_law_many"] (spF F_law_leaves) f fd := by
  have nd := scLawLeaves.nd
  exact fl_fn 3 12 _ rfl FB scLawLeaves rfl rfl (by decide) (fun cdv A outer s H E hr => ⟨_, (fss_cons (fst_own 3 nd (fe_lst fa_nil))
      (fss_cons (fst_for (passes_of rfl) (fi_range1 m_range (fe_name 1)) (fg_name 4 nd) (fss_kill [4, 5, 6] (fss_cons (fst_own 5 nd (fe_lst fa_nil))
      (fss_cons (fst_for (passes_of rfl) (fi_range1 m_range (fe_name 2)) (fg_name 6 nd) (fss_kill [6] (fss_one (fst_if (FW.ft (fw_or (ft_eq hr.units (fe_name 4) (fe_sub (fe_name 1) fe_int)) (fw_or1 (ft_lt (fe_name 6) fe_int)))) (fss_one (fst_expr (fe_append (fe_name 5) (fe_fn C__law_word hr (L2N.takes_of rfl rfl rfl rfl) (fa_cons (fe_name 0) (fa_cons (fe_name 5) fa_nil)))))) fss_nil))))
      (fss_one (fst_expr (fe_append (fe_name 3) (fe_name 5))))))))
      (fss_cons (fst_own 7 nd (fe_lst fa_nil))
      (fss_cons (fst_for (passes_of rfl) (fi_range1 m_range (fe_mul fe_int (fe_name 2))) (fg_name 8 nd) (fss_kill [8, 9] (fss_cons (fst_set 9 nd (fe_join fe_str (fe_lc nd (fi_seq (fe_name 3)) ⟨(blkOk_by (N := ["_law_box_here", "_law_depth", "_law_many", "_law_pools", "_law_level_here", "_law_words", "_law_k", "_law_paths", "_law_turn", "_law_path", "_law_pool", "_law_word_here"]) (sc := defScope sLawLeaves) (own := [("_law_pool", 10)]) (by decide +kernel)), (by decide), (fun _ _ _ _ _ => (fg_name 10 nd)), (fun _ _ _ _ _ => VTs.re fts_nil (by first | rfl | (dsimp only [L2.Cx.blk] <;> rfl))), (fun _ _ _ _ _ => VE.re (fe_ix (fe_name 10) (fe_fn C__law_draw (by exact hr) takes0N (fa_cons (fe_name 0) (fa_cons (fe_len m_len (fa_cons (fe_name 10) fa_nil)) fa_nil)))) (by first | rfl | (dsimp only [L2.Cx.blk] <;> rfl)))⟩)))
      (fss_one (fst_if (FW.ft (fw_and (ft_nin (ru65 hr) (fe_name 9) (fe_name 7)) (fw_and1 (ft_lt (fe_len m_len (fa_cons (fe_name 7) fa_nil)) (fe_name 2))))) (fss_one (fst_expr (fe_append (fe_name 7) (fe_name 9)))) fss_nil)))))
      (fss_cons (fst_for (passes_of rfl) (fi_seq (fe_ix (fe_name 3) (fe_neg fe_int))) (fg_name 11 nd) (fss_kill [9, 11] (fss_cons (fst_set 9 nd (fe_join fe_str (fe_add (fe_lc nd (fi_seq (fe_sl (fe_name 3) fo_none (fo_some (fe_neg fe_int)))) ⟨(blkOk_by (N := ["_law_box_here", "_law_depth", "_law_many", "_law_pools", "_law_level_here", "_law_words", "_law_k", "_law_paths", "_law_turn", "_law_path", "_law_pool", "_law_word_here"]) (sc := defScope sLawLeaves) (own := [("_law_pool", 10)]) (by decide +kernel)), (by decide), (fun _ _ _ _ _ => (fg_name 10 nd)), (fun _ _ _ _ _ => VTs.re fts_nil (by first | rfl | (dsimp only [L2.Cx.blk] <;> rfl))), (fun _ _ _ _ _ => VE.re (fe_ix (fe_name 10) fe_int) (by first | rfl | (dsimp only [L2.Cx.blk] <;> rfl)))⟩) (fe_lst (fa_cons (fe_name 11) fa_nil)))))
      (fss_one (fst_if (FW.ft (fw_and (ft_nin (ru65 hr) (fe_name 9) (fe_name 7)) (fw_and1 (ft_lt (fe_len m_len (fa_cons (fe_name 7) fa_nil)) fe_int)))) (fss_one (fst_expr (fe_append (fe_name 7) (fe_name 9)))) fss_nil)))))
      (fss_one (fst_ret (fe_tuplec m_tuple (fa_cons (fe_sorted m_sorted (fa_cons (fe_name 7) fa_nil)) fa_nil)))))))))⟩)
abbrev sLawWide : Stmt := topS 25
theorem scLawWide : FnScope ["_law_script", "_law_first", "_law_cells_left", "_law_start", "_law_found", "_law_names", "_law_k", "_law_box_here", "_law_depth", "_law_many", "_law_plain", "_law_leaves_here", "_law_name"] ["_law_script", "_law_first", "_law_cells_left"] (defScope sLawWide) := ⟨rfl, rfl, rfl, by decide +kernel, rfl, by decide +kernel, by decide +kernel⟩
theorem okLawWide {f : Addr} {fd : FuncData} {k : Nat} {T : List Addr}
    (FB : FunB K mg "_law_wide" sLawWide ["_law_script", "_law_first", "_law_cells_left"] f fd)
    {fLawDraw : Addr} {fdLawDraw : FuncData} (C__law_draw : Callee P w K mg base T "_law_draw" k ["_law_box_here", "_law_many"] (spF F_law_draw) fLawDraw fdLawDraw)
    {fLawWord : Addr} {fdLawWord : FuncData} (C__law_word : Callee P w K mg base T "_law_word" k ["_law_box_here", "_law_taken"] (spF F_law_word) fLawWord fdLawWord)
    {fLawPlainLeaves : Addr} {fdLawPlainLeaves : FuncData} (C__law_plain_leaves : Callee P w K mg base T "_law_plain_leaves" k ["_law_depth", "_law_many"] (spF F_law_plain_leaves) fLawPlainLeaves fdLawPlainLeaves)
    {fLawLeaves : Addr} {fdLawLeaves : FuncData} (C__law_leaves : Callee P w K mg base T "_law_leaves" k ["_law_box_here", "_law_depth", "_law_many"] (spF F_law_leaves) fLawLeaves fdLawLeaves)
    {fLawBox : Addr} {fdLawBox : FuncData} (C__law_box : Callee P w K mg base T "_law_box" k ["_law_script", "_law_at"] (spF F_law_box) fLawBox fdLawBox)
    (m_tuple : mg "tuple" = none)
    (m_range : mg "range" = none)
    (m_len : mg "len" = none)
    (m_min : mg "min" = none) : Callee P w K mg base T "_law_wide" (k + 1) ["_law_script", "_law_first", "_law_cells_left"] (spF F_law_wide) f fd := by
  have nd := scLawWide.nd
  exact fl_fn 3 13 _ rfl FB scLawWide rfl rfl (by decide) (fun cdv A outer s H E hr => ⟨_, (fss_cons (fst_own 3 nd (fe_fn C__law_box hr (L2N.takes_of rfl rfl rfl rfl) (fa_cons (fe_name 0) (fa_cons (fe_name 1) fa_nil))))
      (fss_cons (fst_own 4 nd (fe_lst fa_nil))
      (fss_cons (fst_own 5 nd (fe_lst fa_nil))
      (fss_cons (fst_kill [2] (fst_for (passes_of rfl) (fi_range1 m_range (fe_add fe_int (fe_fn C__law_draw hr (L2N.takes_of rfl rfl rfl rfl) (fa_cons (fe_name 3) (fa_cons fe_int fa_nil))))) (fg_name 6 nd) (fss_kill [6, 7, 8, 9, 10, 11, 12] (fss_cons (fst_own 7 nd (fe_fn C__law_box hr (L2N.takes_of rfl rfl rfl rfl) (fa_cons (fe_name 0) (fa_cons (fe_add (fe_add (fe_name 1) fe_int) (fe_name 6)) fa_nil))))
      (fss_one (fst_kill [8, 9, 10, 11, 12] (fst_if (ft_ge (fe_name 2) fe_int) (fss_cons (fst_set 8 nd (fe_add fe_int (fe_fn C__law_draw hr (L2N.takes_of rfl rfl rfl rfl) (fa_cons (fe_name 7) (fa_cons fe_int fa_nil)))))
      (fss_cons (fst_set 9 nd (fe_min2 m_min (fa_cons (fe_add fe_int (fe_fn C__law_draw hr (L2N.takes_of rfl rfl rfl rfl) (fa_cons (fe_name 7) (fa_cons fe_int fa_nil)))) (fa_cons (fe_name 2) fa_nil))))
      (fss_cons (fst_set 10 nd (fe_eq hr.units (fe_fn C__law_draw hr (L2N.takes_of rfl rfl rfl rfl) (fa_cons (fe_name 7) (fa_cons fe_int fa_nil))) fe_int))
      (fss_cons (fst_set 11 nd (fe_if (ft_val (fe_name 10)) (fe_fn C__law_plain_leaves hr (L2N.takes_of rfl rfl rfl rfl) (fa_cons (fe_name 8) (fa_cons (fe_name 9) fa_nil))) (fe_fn C__law_leaves hr (L2N.takes_of rfl rfl rfl rfl) (fa_cons (fe_name 7) (fa_cons (fe_name 8) (fa_cons (fe_name 9) fa_nil))))))
      (fss_cons (fst_set 2 nd (fe_div (fe_name 2) (fe_len m_len (fa_cons (fe_name 11) fa_nil))))
      (fss_cons (fst_set 12 nd (fe_fn C__law_word hr (L2N.takes_of rfl rfl rfl rfl) (fa_cons (fe_name 7) (fa_cons (fe_name 5) fa_nil))))
      (fss_cons (fst_expr (fe_append (fe_name 5) (fe_name 12)))
      (fss_one (fst_expr (fe_append (fe_name 4) (fe_tup (fa_cons (fe_name 12) (fa_cons (fe_name 11) fa_nil))))))))))))) fss_nil)))))))
      (fss_one (fst_ret (fe_tuplec m_tuple (fa_cons (fe_name 4) fa_nil))))))))⟩)
abbrev sLawPrefix : Stmt := topS 24
theorem scLawPrefix : FnScope ["_law_path", "_law_level_here"] ["_law_path", "_law_level_here"] (defScope sLawPrefix) := ⟨rfl, rfl, rfl, by decide +kernel, rfl, by decide +kernel, by decide +kernel⟩
theorem okLawPrefix {f : Addr} {fd : FuncData} {k : Nat} {T : List Addr}
    (FB : FunB K mg "_law_prefix" sLawPrefix ["_law_path", "_law_level_here"] f fd) : Callee P w K mg base T "_law_prefix" (k + 1) ["_law_path", "_law_level_here"] (spF F_law_prefix) f fd := by
  have nd := scLawPrefix.nd
  exact fl_fn 2 2 _ rfl FB scLawPrefix rfl rfl (by decide) (fun cdv A outer s H E hr => ⟨_, (fss_one (fst_ret (fe_join fe_str (fe_sl (fe_split (fe_name 0) fe_str) fo_none (fo_some (fe_name 1))))))⟩)
abbrev sLawLevel : Stmt := topS 27
theorem scLawLevel : FnScope ["_law_path"] ["_law_path"] (defScope sLawLevel) := ⟨rfl, rfl, rfl, by decide +kernel, rfl, by decide +kernel, by decide +kernel⟩
theorem okLawLevel {f : Addr} {fd : FuncData} {k : Nat} {T : List Addr}
    (FB : FunB K mg "_law_level" sLawLevel ["_law_path"] f fd)
    (m_len : mg "len" = none) : Callee P w K mg base T "_law_level" (k + 1) ["_law_path"] (spF F_law_level) f fd := by
  have nd := scLawLevel.nd
  exact fl_fn 1 1 _ rfl FB scLawLevel rfl rfl (by decide) (fun cdv A outer s H E hr => ⟨_, (fss_cons (fst_if (ft_eq hr.units (fe_name 0) fe_str) (fss_one (fst_ret fe_int)) fss_nil)
      (fss_one (fst_ret (fe_len m_len (fa_cons (fe_split (fe_name 0) fe_str) fa_nil)))))⟩)
abbrev sLawACondition : Stmt := topS 29
theorem scLawACondition : FnScope ["_law_box_here", "_law_dimensions", "_law_dimension", "_law_paths", "_law_k", "_law_leaf"] ["_law_box_here", "_law_dimensions"] (defScope sLawACondition) := ⟨rfl, rfl, rfl, by decide +kernel, rfl, by decide +kernel, by decide +kernel⟩
theorem okLawACondition {f : Addr} {fd : FuncData} {k : Nat} {T : List Addr}
    (FB : FunB K mg "_law_a_condition" sLawACondition ["_law_box_here", "_law_dimensions"] f fd)
    {fLawDraw : Addr} {fdLawDraw : FuncData} (C__law_draw : Callee P w K mg base T "_law_draw" k ["_law_box_here", "_law_many"] (spF F_law_draw) fLawDraw fdLawDraw)
    {fLawPrefix : Addr} {fdLawPrefix : FuncData} (C__law_prefix : Callee P w K mg base T "_law_prefix" k ["_law_path", "_law_level_here"] (spF F_law_prefix) fLawPrefix fdLawPrefix)
    {fLawLevel : Addr} {fdLawLevel : FuncData} (C__law_level : Callee P w K mg base T "_law_level" k ["_law_path"] (spF F_law_level) fLawLevel fdLawLevel)
    (m_tuple : mg "tuple" = none)
    (m_range : mg "range" = none)
    (m_len : mg "len" = none) : Callee P w K mg base T "_law_a_condition" (k + 1) ["_law_box_here", "_law_dimensions"] (spF F_law_a_condition) f fd := by
  have nd := scLawACondition.nd
  exact fl_fn 2 6 _ rfl FB scLawACondition rfl rfl (by decide) (fun cdv A outer s H E hr => ⟨_, (fss_cons (fst_set 2 nd (fe_ix (fe_name 1) (fe_fn C__law_draw hr (L2N.takes_of rfl rfl rfl rfl) (fa_cons (fe_name 0) (fa_cons (fe_len m_len (fa_cons (fe_name 1) fa_nil)) fa_nil)))))
      (fss_cons (fst_own 3 nd (fe_lst fa_nil))
      (fss_cons (fst_for (passes_of rfl) (fi_range1 m_range (fe_add fe_int (fe_fn C__law_draw hr (L2N.takes_of rfl rfl rfl rfl) (fa_cons (fe_name 0) (fa_cons fe_int fa_nil))))) (fg_name 4 nd) (fss_kill [4, 5] (fss_cons (fst_set 5 nd (fe_ix (fe_ix (fe_name 2) fe_int) (fe_fn C__law_draw hr (L2N.takes_of rfl rfl rfl rfl) (fa_cons (fe_name 0) (fa_cons (fe_len m_len (fa_cons (fe_ix (fe_name 2) fe_int) fa_nil)) fa_nil)))))
      (fss_one (fst_expr (fe_append (fe_name 3) (fe_fn C__law_prefix hr (L2N.takes_of rfl rfl rfl rfl) (fa_cons (fe_name 5) (fa_cons (fe_add fe_int (fe_fn C__law_draw hr (L2N.takes_of rfl rfl rfl rfl) (fa_cons (fe_name 0) (fa_cons (fe_fn C__law_level hr (L2N.takes_of rfl rfl rfl rfl) (fa_cons (fe_name 5) fa_nil)) fa_nil)))) fa_nil)))))))))
      (fss_one (fst_ret (fe_tup (fa_cons (fe_ix (fe_name 2) fe_int) (fa_cons (fe_tuplec m_tuple (fa_cons (fe_name 3) fa_nil)) fa_nil))))))))⟩)
abbrev sLawTree : Stmt := topS 30
theorem scLawTree : FnScope ["_law_box_here", "_law_dimensions", "_law_depth", "_law_kind", "_law_rows", "_law_k", "_law_row", "_law_other", "_law_first"] ["_law_box_here", "_law_dimensions", "_law_depth"] (defScope sLawTree) := ⟨rfl, rfl, rfl, by decide +kernel, rfl, by decide +kernel, by decide +kernel⟩
theorem okLawTree {f : Addr} {fd : FuncData} {k n : Nat} {T : List Addr}
    (FB : FunB K mg "_law_tree" sLawTree ["_law_box_here", "_law_dimensions", "_law_depth"] f fd)
    {fLawTree : Addr} {fdLawTree : FuncData} (C__law_tree : Callee P w K mg base T "_law_tree" k ["_law_box_here", "_law_dimensions", "_law_depth"] (spF (F_law_tree n)) fLawTree fdLawTree)
    {fLawDraw : Addr} {fdLawDraw : FuncData} (C__law_draw : Callee P w K mg base T "_law_draw" k ["_law_box_here", "_law_many"] (spF F_law_draw) fLawDraw fdLawDraw)
    {fLawACondition : Addr} {fdLawACondition : FuncData} (C__law_a_condition : Callee P w K mg base T "_law_a_condition" k ["_law_box_here", "_law_dimensions"] (spF F_law_a_condition) fLawACondition fdLawACondition)
    (m_tuple : mg "tuple" = none)
    (m_range : mg "range" = none) : Callee P w K mg base T "_law_tree" (k + 1) ["_law_box_here", "_law_dimensions", "_law_depth"] (spF (F_law_tree (n + 1))) f fd := by
  have nd := scLawTree.nd
  exact fl_fn 3 9 _ rfl FB scLawTree rfl rfl (by decide) (fun cdv A outer s H E hr => ⟨_, (fss_cons (fst_set 3 nd (fe_fn C__law_draw hr (L2N.takes_of rfl rfl rfl rfl) (fa_cons (fe_name 0) (fa_cons fe_int fa_nil))))
      (fss_cons (fst_kill [4, 5, 6] (fst_if (FW.ft (fw_or (ft_le (fe_name 2) fe_int) (fw_or1 (ft_lt (fe_name 3) fe_int)))) (fss_cons (fst_own 4 nd (fe_lst fa_nil))
      (fss_cons (fst_for (passes_of rfl) (fi_range1 m_range (fe_fn C__law_draw hr (L2N.takes_of rfl rfl rfl rfl) (fa_cons (fe_name 0) (fa_cons fe_int fa_nil)))) (fg_name 5 nd) (fss_kill [5, 6] (fss_cons (fst_set 6 nd (fe_fn C__law_a_condition hr (L2N.takes_of rfl rfl rfl rfl) (fa_cons (fe_name 0) (fa_cons (fe_name 1) fa_nil))))
      (fss_one (fst_if (ft_nin (ru65 hr) (fe_ix (fe_name 6) fe_int) (fe_lcO (j := 4) nd ⟨(blkOk_by (N := ["_law_box_here", "_law_dimensions", "_law_depth", "_law_kind", "_law_rows", "_law_k", "_law_row", "_law_other", "_law_first"]) (sc := defScope sLawTree) (own := [("_law_other", 7)]) (by decide +kernel)), (by decide), (fun _ _ _ _ _ => (fg_name 7 nd)), (fun _ _ _ _ _ => VTs.re fts_nil (by first | rfl | (dsimp only [L2.Cx.blk] <;> rfl))), (fun _ _ _ _ _ => VE.re (fe_ix (fe_name 7) fe_int) (by first | rfl | (dsimp only [L2.Cx.blk] <;> rfl)))⟩)) (fss_one (fst_expr (fe_append (fe_name 4) (fe_name 6)))) fss_nil)))))
      (fss_one (fst_ret (fe_tup (fa_cons fe_str (fa_cons (fe_tuplec m_tuple (fa_cons (fe_name 4) fa_nil)) fa_nil))))))) fss_nil))
      (fss_cons (fst_if (ft_eq hr.units (fe_name 3) fe_int) (fss_one (fst_ret (fe_tup (fa_cons fe_str (fa_cons (fe_ix (fe_tup (fa_cons (fe_fn C__law_draw hr (L2N.takes_of rfl rfl rfl rfl) (fa_cons (fe_name 0) (fa_cons fe_int fa_nil))) (fa_cons (fe_fn C__law_draw hr (L2N.takes_of rfl rfl rfl rfl) (fa_cons (fe_name 0) (fa_cons fe_int fa_nil))) (fa_cons (fe_fn C__law_draw hr (L2N.takes_of rfl rfl rfl rfl) (fa_cons (fe_name 0) (fa_cons fe_int fa_nil))) fa_nil)))) (fe_fn C__law_draw hr (L2N.takes_of rfl rfl rfl rfl) (fa_cons (fe_name 0) (fa_cons fe_int fa_nil)))) (fa_cons (fe_fn C__law_tree hr (L2N.takes_of rfl rfl rfl rfl) (fa_cons (fe_name 0) (fa_cons (fe_name 1) (fa_cons (fe_sub (fe_name 2) fe_int) fa_nil)))) fa_nil)))))) fss_nil)
      (fss_cons (fst_if (ft_eq hr.units (fe_name 3) fe_int) (fss_one (fst_ret (fe_tup (fa_cons fe_str (fa_cons (fe_fn C__law_tree hr (L2N.takes_of rfl rfl rfl rfl) (fa_cons (fe_name 0) (fa_cons (fe_name 1) (fa_cons (fe_sub (fe_name 2) fe_int) fa_nil)))) fa_nil))))) fss_nil)
      (fss_cons (fst_set 8 nd (fe_fn C__law_tree hr (L2N.takes_of rfl rfl rfl rfl) (fa_cons (fe_name 0) (fa_cons (fe_name 1) (fa_cons (fe_sub (fe_name 2) fe_int) fa_nil)))))
      (fss_one (fst_ret (fe_tup (fa_cons (fe_if (ft_lt (fe_name 3) fe_int) fe_str fe_str) (fa_cons (fe_name 8) (fa_cons (fe_fn C__law_tree hr (L2N.takes_of rfl rfl rfl rfl) (fa_cons (fe_name 0) (fa_cons (fe_name 1) (fa_cons (fe_sub (fe_name 2) fe_int) fa_nil)))) fa_nil)))))))))))⟩)
abbrev sLawGap : Stmt := topS 28
theorem scLawGap : FnScope ["_law_box_here"] ["_law_box_here"] (defScope sLawGap) := ⟨rfl, rfl, rfl, by decide +kernel, rfl, by decide +kernel, by decide +kernel⟩
theorem okLawGap {f : Addr} {fd : FuncData} {k : Nat} {T : List Addr}
    (FB : FunB K mg "_law_gap" sLawGap ["_law_box_here"] f fd)
    {fLawDraw : Addr} {fdLawDraw : FuncData} (C__law_draw : Callee P w K mg base T "_law_draw" k ["_law_box_here", "_law_many"] (spF F_law_draw) fLawDraw fdLawDraw) : Callee P w K mg base T "_law_gap" (k + 1) ["_law_box_here"] (spF F_law_gap) f fd := by
  have nd := scLawGap.nd
  exact fl_fn 1 1 _ rfl FB scLawGap rfl rfl (by decide) (fun cdv A outer s H E hr => ⟨_, (fss_one (fst_ret (fe_sl fe_str fo_none (fo_some (fe_fn C__law_draw hr (L2N.takes_of rfl rfl rfl rfl) (fa_cons (fe_name 0) (fa_cons fe_int fa_nil)))))))⟩)
abbrev sLawConditionsText : Stmt := topS 31
theorem scLawConditionsText : FnScope ["_law_box_here", "_law_conditions", "_law_rows", "_law_row", "_law_gap_here", "_law_path"] ["_law_box_here", "_law_conditions"] (defScope sLawConditionsText) := ⟨rfl, rfl, rfl, by decide +kernel, rfl, by decide +kernel, by decide +kernel⟩
theorem okLawConditionsText {f : Addr} {fd : FuncData} {k : Nat} {T : List Addr}
    (FB : FunB K mg "_law_conditions_text" sLawConditionsText ["_law_box_here", "_law_conditions"] f fd)
    {fLawGap : Addr} {fdLawGap : FuncData} (C__law_gap : Callee P w K mg base T "_law_gap" k ["_law_box_here"] (spF F_law_gap) fLawGap fdLawGap)
    (m_NB : VL.nbIn K = true) : Callee P w K mg base T "_law_conditions_text" (k + 1) ["_law_box_here", "_law_conditions"] (spF F_law_conditions_text) f fd := by
  have nd := scLawConditionsText.nd
  exact fl_fn 2 6 _ rfl FB scLawConditionsText rfl rfl (by decide) (fun cdv A outer s H E hr => ⟨_, (fss_cons (fst_own 2 nd (fe_lst fa_nil))
      (fss_cons (fst_for (passes_of rfl) (fi_seq (fe_name 1)) (fg_name 3 nd) (fss_kill [3, 4] (fss_cons (fst_set 4 nd (fe_fn C__law_gap hr (L2N.takes_of rfl rfl rfl rfl) (fa_cons (fe_name 0) fa_nil)))
      (fss_one (fst_expr (fe_append (fe_name 2) (fe_addT (fe_ix (fe_name 3) fe_int) (fet_join (fe_add (fe_add (fe_name 4) fe_str) (fe_name 4)) (fet_lc nd (fi_seq (fe_ix (fe_name 3) fe_int)) ⟨(blkOk_by (N := ["_law_box_here", "_law_conditions", "_law_rows", "_law_row", "_law_gap_here", "_law_path"]) (sc := defScope sLawConditionsText) (own := [("_law_path", 5)]) (by decide +kernel)), (by decide), (fun _ _ _ _ _ => (fg_name 5 nd)), (fun _ _ _ _ _ => VTs.re fts_nil (by first | rfl | (dsimp only [L2.Cx.blk] <;> rfl))), (fun _ _ _ _ _ => FEt.re (fet_repl (by exact m_NB) (fe_name 5) (fe_name 4)) (by first | rfl | (dsimp only [L2.Cx.blk] <;> rfl)))⟩)))))))))
      (fss_one (fst_ret (fe_add fe_str (fe_join fe_str (fe_name 2)))))))⟩)
abbrev sLawFactorText : Stmt := topS 32
theorem scLawFactorText : FnScope ["_law_box_here", "_law_tree_here"] ["_law_box_here", "_law_tree_here"] (defScope sLawFactorText) := ⟨rfl, rfl, rfl, by decide +kernel, rfl, by decide +kernel, by decide +kernel⟩
theorem okLawFactorText {f : Addr} {fd : FuncData} {k n : Nat} {T : List Addr}
    (FB : FunB K mg "_law_factor_text" sLawFactorText ["_law_box_here", "_law_tree_here"] f fd)
    {fLawGap : Addr} {fdLawGap : FuncData} (C__law_gap : Callee P w K mg base T "_law_gap" k ["_law_box_here"] (spF F_law_gap) fLawGap fdLawGap)
    {fLawTreeText : Addr} {fdLawTreeText : FuncData} (C__law_tree_text : Callee P w K mg base T "_law_tree_text" k ["_law_box_here", "_law_tree_here"] (spF (F_law_tree_text n)) fLawTreeText fdLawTreeText)
    {fLawConditionsText : Addr} {fdLawConditionsText : FuncData} (C__law_conditions_text : Callee P w K mg base T "_law_conditions_text" k ["_law_box_here", "_law_conditions"] (spF F_law_conditions_text) fLawConditionsText fdLawConditionsText)
    {fLawDraw : Addr} {fdLawDraw : FuncData} (C__law_draw : Callee P w K mg base T "_law_draw" k ["_law_box_here", "_law_many"] (spF F_law_draw) fLawDraw fdLawDraw)
    (m_len : mg "len" = none) : Callee P w K mg base T "_law_factor_text" (k + 1) ["_law_box_here", "_law_tree_here"] (spF (F_law_factor_text (F_law_tree_text n))) f fd := by
  have nd := scLawFactorText.nd
  exact fl_fn 2 2 _ rfl FB scLawFactorText rfl rfl (by decide) (fun cdv A outer s H E hr => ⟨_, (fss_cons (fst_if (FW.ft (fw_and (ft_eq hr.units (fe_ix (fe_name 1) fe_int) fe_str) (fw_and1 (ft_gt (fe_fn C__law_draw hr (L2N.takes_of rfl rfl rfl rfl) (fa_cons (fe_name 0) (fa_cons fe_int fa_nil))) fe_int)))) (fss_one (fst_ret (fe_add fe_str (fe_if (ft_gt (fe_len m_len (fa_cons (fe_ix (fe_name 1) fe_int) fa_nil)) fe_int) (fe_fn C__law_conditions_text hr (L2N.takes_of rfl rfl rfl rfl) (fa_cons (fe_name 0) (fa_cons (fe_ix (fe_name 1) fe_int) fa_nil))) fe_str)))) fss_nil)
      (fss_cons (fst_if (ft_eq hr.units (fe_ix (fe_name 1) fe_int) fe_str) (fss_one (fst_ret (fe_add (fe_add (fe_add fe_str (fe_if (ft_gt (fe_len m_len (fa_cons (fe_ix (fe_name 1) fe_int) fa_nil)) fe_int) (fe_fn C__law_conditions_text hr (L2N.takes_of rfl rfl rfl rfl) (fa_cons (fe_name 0) (fa_cons (fe_ix (fe_name 1) fe_int) fa_nil))) fe_str)) (fe_fn C__law_gap hr (L2N.takes_of rfl rfl rfl rfl) (fa_cons (fe_name 0) fa_nil))) fe_str))) fss_nil)
      (fss_one (fst_ret (fe_add (fe_add (fe_add fe_str (fe_fn C__law_gap hr (L2N.takes_of rfl rfl rfl rfl) (fa_cons (fe_name 0) fa_nil))) (fe_fn C__law_tree_text hr (L2N.takes_of rfl rfl rfl rfl) (fa_cons (fe_name 0) (fa_cons (fe_name 1) fa_nil)))) fe_str)))))⟩)
abbrev sLawTermText : Stmt := topS 33
theorem scLawTermText : FnScope ["_law_box_here", "_law_tree_here"] ["_law_box_here", "_law_tree_here"] (defScope sLawTermText) := ⟨rfl, rfl, rfl, by decide +kernel, rfl, by decide +kernel, by decide +kernel⟩
theorem okLawTermText {f : Addr} {fd : FuncData} {k n : Nat} {T : List Addr}
    (FB : FunB K mg "_law_term_text" sLawTermText ["_law_box_here", "_law_tree_here"] f fd)
    {fLawFactorText : Addr} {fdLawFactorText : FuncData} (C__law_factor_text : Callee P w K mg base T "_law_factor_text" k ["_law_box_here", "_law_tree_here"] (spF (F_law_factor_text (F_law_tree_text n))) fLawFactorText fdLawFactorText)
    {fLawGap : Addr} {fdLawGap : FuncData} (C__law_gap : Callee P w K mg base T "_law_gap" k ["_law_box_here"] (spF F_law_gap) fLawGap fdLawGap)
    (m_str : mg "str" = none) : Callee P w K mg base T "_law_term_text" (k + 1) ["_law_box_here", "_law_tree_here"] (spF (F_law_term_text (F_law_tree_text n))) f fd := by
  have nd := scLawTermText.nd
  exact fl_fn 2 2 _ rfl FB scLawTermText rfl rfl (by decide) (fun cdv A outer s H E hr => ⟨_, (fss_cons (fst_if (ft_eq hr.units (fe_ix (fe_name 1) fe_int) fe_str) (fss_one (fst_ret (fe_add (fe_add (fe_add (fe_add (fe_strc m_str (fa_cons (fe_ix (fe_name 1) fe_int) fa_nil)) (fe_fn C__law_gap hr (L2N.takes_of rfl rfl rfl rfl) (fa_cons (fe_name 0) fa_nil))) fe_str) (fe_fn C__law_gap hr (L2N.takes_of rfl rfl rfl rfl) (fa_cons (fe_name 0) fa_nil))) (fe_fn C__law_factor_text hr (L2N.takes_of rfl rfl rfl rfl) (fa_cons (fe_name 0) (fa_cons (fe_ix (fe_name 1) fe_int) fa_nil)))))) fss_nil)
      (fss_one (fst_ret (fe_fn C__law_factor_text hr (L2N.takes_of rfl rfl rfl rfl) (fa_cons (fe_name 0) (fa_cons (fe_name 1) fa_nil))))))⟩)
abbrev sLawTreeText : Stmt := topS 34
theorem scLawTreeText : FnScope ["_law_box_here", "_law_tree_here", "_law_sign"] ["_law_box_here", "_law_tree_here"] (defScope sLawTreeText) := ⟨rfl, rfl, rfl, by decide +kernel, rfl, by decide +kernel, by decide +kernel⟩
theorem okLawTreeText {f : Addr} {fd : FuncData} {k n : Nat} {T : List Addr}
    (FB : FunB K mg "_law_tree_text" sLawTreeText ["_law_box_here", "_law_tree_here"] f fd)
    {fLawTermText : Addr} {fdLawTermText : FuncData} (C__law_term_text : Callee P w K mg base T "_law_term_text" k ["_law_box_here", "_law_tree_here"] (spF (F_law_term_text (F_law_tree_text n))) fLawTermText fdLawTermText)
    {fLawGap : Addr} {fdLawGap : FuncData} (C__law_gap : Callee P w K mg base T "_law_gap" k ["_law_box_here"] (spF F_law_gap) fLawGap fdLawGap)
    {fLawTreeText : Addr} {fdLawTreeText : FuncData} (C__law_tree_text : Callee P w K mg base T "_law_tree_text" k ["_law_box_here", "_law_tree_here"] (spF (F_law_tree_text n)) fLawTreeText fdLawTreeText) : Callee P w K mg base T "_law_tree_text" (k + 1) ["_law_box_here", "_law_tree_here"] (spF (F_law_tree_text (n + 1))) f fd := by
  have nd := scLawTreeText.nd
  exact fl_fn 2 3 _ rfl FB scLawTreeText rfl rfl (by decide) (fun cdv A outer s H E hr => ⟨_, (fss_cons (fst_kill [2] (fst_if (FW.ft (fw_or (ft_eq hr.units (fe_ix (fe_name 1) fe_int) fe_str) (fw_or1 (ft_eq hr.units (fe_ix (fe_name 1) fe_int) fe_str)))) (fss_cons (fst_set 2 nd (fe_if (ft_eq hr.units (fe_ix (fe_name 1) fe_int) fe_str) fe_str fe_str))
      (fss_one (fst_ret (fe_add (fe_add (fe_add (fe_add (fe_fn C__law_tree_text hr (L2N.takes_of rfl rfl rfl rfl) (fa_cons (fe_name 0) (fa_cons (fe_ix (fe_name 1) fe_int) fa_nil))) (fe_fn C__law_gap hr (L2N.takes_of rfl rfl rfl rfl) (fa_cons (fe_name 0) fa_nil))) (fe_name 2)) (fe_fn C__law_gap hr (L2N.takes_of rfl rfl rfl rfl) (fa_cons (fe_name 0) fa_nil))) (fe_fn C__law_term_text hr (L2N.takes_of rfl rfl rfl rfl) (fa_cons (fe_name 0) (fa_cons (fe_ix (fe_name 1) fe_int) fa_nil))))))) fss_nil))
      (fss_cons (fst_if (ft_eq hr.units (fe_ix (fe_name 1) fe_int) fe_str) (fss_one (fst_ret (fe_add (fe_add fe_str (fe_fn C__law_gap hr (L2N.takes_of rfl rfl rfl rfl) (fa_cons (fe_name 0) fa_nil))) (fe_fn C__law_term_text hr (L2N.takes_of rfl rfl rfl rfl) (fa_cons (fe_name 0) (fa_cons (fe_ix (fe_name 1) fe_int) fa_nil)))))) fss_nil)
      (fss_one (fst_ret (fe_fn C__law_term_text hr (L2N.takes_of rfl rfl rfl rfl) (fa_cons (fe_name 0) (fa_cons (fe_name 1) fa_nil)))))))⟩)
abbrev sLawIsInteger : Stmt := topS 20
theorem scLawIsInteger : FnScope ["_law_actual"] ["_law_actual"] (defScope sLawIsInteger) := ⟨rfl, rfl, rfl, by decide +kernel, rfl, by decide +kernel, by decide +kernel⟩
theorem okLawIsInteger {f : Addr} {fd : FuncData} {k : Nat} {T : List Addr}
    (FB : FunB K mg "_law_is_integer" sLawIsInteger ["_law_actual"] f fd)
    (m_isinstance : mg "isinstance" = none)
    (m_bool : mg "bool" = none)
    (m_int : mg "int" = none) : Callee P w K mg base T "_law_is_integer" (k + 1) ["_law_actual"] (spF F_law_is_integer) f fd := by
  have nd := scLawIsInteger.nd
  exact fl_fn 1 1 _ rfl FB scLawIsInteger rfl rfl (by decide) (fun cdv A outer s H E hr => ⟨_, (fss_one (fst_ret (fe_andB (fe_isi .int m_isinstance m_int VL.boot_int (fe_name 0)) (fe_one (fe_not (fe_isi .bool m_isinstance m_bool VL.boot_bool (fe_name 0)))))))⟩)
abbrev sLawSame : Stmt := topS 21
theorem scLawSame : FnScope ["_law_actual", "_law_due", "_law_at"] ["_law_actual", "_law_due"] (defScope sLawSame) := ⟨rfl, rfl, rfl, by decide +kernel, rfl, by decide +kernel, by decide +kernel⟩
theorem okLawSame {f : Addr} {fd : FuncData} {k n : Nat} {T : List Addr}
    (FB : FunB K mg "_law_same" sLawSame ["_law_actual", "_law_due"] f fd)
    {fLawIsInteger : Addr} {fdLawIsInteger : FuncData} (C__law_is_integer : Callee P w K mg base T "_law_is_integer" k ["_law_actual"] (spF F_law_is_integer) fLawIsInteger fdLawIsInteger)
    {fLawSame : Addr} {fdLawSame : FuncData} (C__law_same : Callee P w K mg base T "_law_same" k ["_law_actual", "_law_due"] (spF (F_law_same n)) fLawSame fdLawSame)
    (m_isinstance : mg "isinstance" = none)
    (m_str : mg "str" = none)
    (m_int : mg "int" = none)
    (m_bool : mg "bool" = none)
    (m_tuple : mg "tuple" = none)
    (m_len : mg "len" = none)
    (m_range : mg "range" = none)
    (m_all : mg "all" = none) : Callee P w K mg base T "_law_same" (k + 1) ["_law_actual", "_law_due"] (spF (F_law_same (n + 1))) f fd := by
  have nd := scLawSame.nd
  exact fl_fn 2 3 _ rfl FB scLawSame rfl rfl (by decide) (fun cdv A outer s H E hr => ⟨_, (fss_cons (fst_if (ft_val (fe_isi .tuple m_isinstance m_tuple VL.boot_tuple (fe_name 1))) (fss_cons (fst_if (FW.ft (fw_or (ft_not (ft_val (fe_isi .tuple m_isinstance m_tuple VL.boot_tuple (fe_name 0)))) (fw_or1 (ft_ne hr.units (fe_len m_len (fa_cons (fe_name 0) fa_nil)) (fe_len m_len (fa_cons (fe_name 1) fa_nil)))))) (fss_one (fst_ret fe_bl)) fss_nil)
      (fss_one (fst_ret (fe_all m_all (fa_cons (fe_lc nd (fi_range1 m_range (fe_len m_len (fa_cons (fe_name 1) fa_nil))) ⟨(blkOk_by (N := ["_law_actual", "_law_due", "_law_at"]) (sc := defScope sLawSame) (own := [("_law_at", 2)]) (by decide +kernel)), (by decide), (fun _ _ _ _ _ => (fg_name 2 nd)), (fun _ _ _ _ _ => VTs.re fts_nil (by first | rfl | (dsimp only [L2.Cx.blk] <;> rfl))), (fun _ _ _ _ _ => VE.re (fe_fn C__law_same (by exact hr) takes0N (fa_cons (fe_ix (fe_name 0) (fe_name 2)) (fa_cons (fe_ix (fe_name 1) (fe_name 2)) fa_nil))) (by first | rfl | (dsimp only [L2.Cx.blk] <;> rfl)))⟩) fa_nil))))) fss_nil)
      (fss_cons (fst_if (ft_val (fe_isi .bool m_isinstance m_bool VL.boot_bool (fe_name 1))) (fss_one (fst_ret (fe_andB (fe_isi .bool m_isinstance m_bool VL.boot_bool (fe_name 0)) (fe_one (fe_eq hr.units (fe_name 0) (fe_name 1)))))) fss_nil)
      (fss_cons (fst_if (ft_val (fe_isi .int m_isinstance m_int VL.boot_int (fe_name 1))) (fss_one (fst_ret (fe_andB (fe_fn C__law_is_integer hr (L2N.takes_of rfl rfl rfl rfl) (fa_cons (fe_name 0) fa_nil)) (fe_one (fe_eq hr.units (fe_name 0) (fe_name 1)))))) fss_nil)
      (fss_cons (fst_if (ft_val (fe_isi .str m_isinstance m_str VL.boot_str (fe_name 1))) (fss_one (fst_ret (fe_andB (fe_isi .str m_isinstance m_str VL.boot_str (fe_name 0)) (fe_one (fe_eq hr.units (fe_name 0) (fe_name 1)))))) fss_nil)
      (fss_one (fst_ret (fe_andB (fe_isN (fe_name 0) fe_non) (fe_one (fe_isN (fe_name 1) fe_non)))))))))⟩)
abbrev sRunEnd : Stmt := topS 10
theorem scRunEnd : FnScope ["text", "at", "signs"] ["text", "at", "signs"] (defScope sRunEnd) := ⟨rfl, rfl, rfl, by decide +kernel, rfl, by decide +kernel, by decide +kernel⟩
theorem okRunEnd {f : Addr} {fd : FuncData} {k : Nat} {T : List Addr}
    (FB : FunB K mg "run_end" sRunEnd ["text", "at", "signs"] f fd)
    (m_len : mg "len" = none) : Callee P w K mg base T "run_end" (k + 1) ["text", "at", "signs"] (spF F_run_end) f fd := by
  have nd := scRunEnd.nd
  exact fl_fn 3 3 _ rfl FB scRunEnd rfl rfl (by decide) (fun cdv A outer s H E hr => ⟨_, (fss_cons (fst_while (passes_of rfl) (FW.ft (fw_and (ft_lt (fe_name 1) (fe_len m_len (fa_cons (fe_name 0) fa_nil))) (fw_and1 (ft_in (ru65 hr) (fe_ix (fe_name 0) (fe_name 1)) (fe_name 2))))) (fss_one (fst_set 1 nd (fe_add (fe_name 1) fe_int))))
      (fss_one (fst_ret (fe_name 1))))⟩)
abbrev sTokens : Stmt := topS 12
theorem scTokens : FnScope ["text", "found", "at", "behind"] ["text"] (defScope sTokens) := ⟨rfl, rfl, rfl, by decide +kernel, rfl, by decide +kernel, by decide +kernel⟩
theorem okTokens {f : Addr} {fd : FuncData} {k : Nat} {T : List Addr}
    (FB : FunB K mg "tokens" sTokens ["text"] f fd)
    {fRunEnd : Addr} {fdRunEnd : FuncData} (C_run_end : Callee P w K mg base T "run_end" k ["text", "at", "signs"] (spF F_run_end) fRunEnd fdRunEnd)
    (m_tuple : mg "tuple" = none)
    (m_len : mg "len" = none)
    (m_max : mg "max" = none)
    {v_DIGITS : V} (G_DIGITS : GlobK K mg "DIGITS" (.str "0123456789") v_DIGITS)
    {v_LETTERS : V} (G_LETTERS : GlobK K mg "LETTERS" (.str "abcdefghijklmnopqrstuvwxyz") v_LETTERS) : Callee P w K mg base T "tokens" (k + 1) ["text"] (spF F_tokens) f fd := by
  have nd := scTokens.nd
  exact fl_fn 1 4 _ rfl FB scTokens rfl rfl (by decide) (fun cdv A outer s H E hr => ⟨_, (fss_cons (fst_own 1 nd (fe_lst fa_nil))
      (fss_cons (fst_set 2 nd (fe_fn C_run_end hr (L2N.takes_of rfl rfl rfl rfl) (fa_cons (fe_name 0) (fa_cons fe_int (fa_cons fe_str fa_nil)))))
      (fss_cons (fst_kill [2] (fst_while (passes_of rfl) (ft_lt (fe_name 2) (fe_len m_len (fa_cons (fe_name 0) fa_nil))) (fss_kill [3] (fss_cons (fst_set 3 nd (fe_max3 m_max (fa_cons (fe_fn C_run_end hr (L2N.takes_of rfl rfl rfl rfl) (fa_cons (fe_name 0) (fa_cons (fe_name 2) (fa_cons (fe_gl G_LETTERS) fa_nil)))) (fa_cons (fe_fn C_run_end hr (L2N.takes_of rfl rfl rfl rfl) (fa_cons (fe_name 0) (fa_cons (fe_name 2) (fa_cons (fe_gl G_DIGITS) fa_nil)))) (fa_cons (fe_add (fe_name 2) fe_int) fa_nil)))))
      (fss_cons (fst_expr (fe_append (fe_name 1) (fe_sl (fe_name 0) (fo_some (fe_name 2)) (fo_some (fe_name 3)))))
      (fss_one (fst_set 2 nd (fe_fn C_run_end hr (L2N.takes_of rfl rfl rfl rfl) (fa_cons (fe_name 0) (fa_cons (fe_name 3) (fa_cons fe_str fa_nil)))))))))))
      (fss_one (fst_ret (fe_tuplec m_tuple (fa_cons (fe_name 1) fa_nil)))))))⟩)
abbrev sReaderInit : Stmt := clsB (topS 13) 0
theorem scReaderInit : FnScope ["self", "text"] ["self", "text"] (defScope sReaderInit) := ⟨rfl, rfl, rfl, by decide +kernel, rfl, by decide +kernel, by decide +kernel⟩
theorem okReaderInit {f : Addr} {fd : FuncData} {k : Nat} {T : List Addr}
    (FB : FunI K mg "Reader" "Reader.__init__" sReaderInit ["self", "text"] f fd)
    (K_Reader : Cls K (CM.at_ "Reader"))
    (A_Reader_at : NoAttr K (CM.at_ "Reader") "at")
    (A_Reader_words : NoAttr K (CM.at_ "Reader") "words")
    {fTokens : Addr} {fdTokens : FuncData} (C_tokens : Callee P w K mg base T "tokens" k ["text"] (spF F_tokens) fTokens fdTokens) : CCallee P w K mg base T "Reader" (k + 1) ["self", "text"] (spF F_Reader___init) f fd := by
  have nd := scReaderInit.nd
  exact fl_init 2 2 _ rfl FB scReaderInit rfl rfl (by decide) (fun cdv A outer s H E hr => ⟨_, (fss_cons (fst_fld (C := "Reader") K_Reader A_Reader_words (fe_name 0) (fe_fn C_tokens hr (L2N.takes_of rfl rfl rfl rfl) (fa_cons (fe_name 1) fa_nil)))
      (fss_one (fst_fld (C := "Reader") K_Reader A_Reader_at (fe_name 0) fe_int)))⟩)
abbrev sReaderSeen : Stmt := clsB (topS 13) 1
theorem scReaderSeen : FnScope ["self"] ["self"] (defScope sReaderSeen) := ⟨rfl, rfl, rfl, by decide +kernel, rfl, by decide +kernel, by decide +kernel⟩
theorem okReaderSeen {f : Addr} {fd : FuncData} {k : Nat} {T : List Addr}
    (FB : FunM K "Reader" "seen" "Reader.seen" sReaderSeen ["self"] f fd)
    (K_Reader : Cls K (CM.at_ "Reader"))
    (A_Reader_at : NoAttr K (CM.at_ "Reader") "at")
    (A_Reader_words : NoAttr K (CM.at_ "Reader") "words")
    (m_len : mg "len" = none) : MCallee P w K mg base T "Reader" "seen" (k + 1) ["self"] (spF F_Reader_seen) f fd := by
  have nd := scReaderSeen.nd
  exact fl_meth 1 1 _ rfl FB scReaderSeen rfl rfl (by decide) (fun cdv A outer s H E hr => ⟨_, (fss_cons (fst_if (ft_lt (fe_fld (C := "Reader") K_Reader A_Reader_at (fe_name 0)) (fe_len m_len (fa_cons (fe_fld (C := "Reader") K_Reader A_Reader_words (fe_name 0)) fa_nil))) (fss_one (fst_ret (fe_ix (fe_fld (C := "Reader") K_Reader A_Reader_words (fe_name 0)) (fe_fld (C := "Reader") K_Reader A_Reader_at (fe_name 0))))) fss_nil)
      (fss_one (fst_ret fe_str)))⟩)
abbrev sReaderPasses : Stmt := clsB (topS 13) 3
theorem scReaderPasses : FnScope ["self", "word"] ["self", "word"] (defScope sReaderPasses) := ⟨rfl, rfl, rfl, by decide +kernel, rfl, by decide +kernel, by decide +kernel⟩
theorem okReaderPasses {f : Addr} {fd : FuncData} {k : Nat} {T : List Addr}
    (FB : FunM K "Reader" "passes" "Reader.passes" sReaderPasses ["self", "word"] f fd)
    (K_Reader : Cls K (CM.at_ "Reader"))
    (A_Reader_at : NoAttr K (CM.at_ "Reader") "at")
    {fReaderSeen : Addr} {fdReaderSeen : FuncData} (C_Reader_seen : MCallee P w K mg base T "Reader" "seen" k ["self"] (spF F_Reader_seen) fReaderSeen fdReaderSeen) : MCallee P w K mg base T "Reader" "passes" (k + 1) ["self", "word"] (spF F_Reader_passes) f fd := by
  have nd := scReaderPasses.nd
  exact fl_meth 2 2 _ rfl FB scReaderPasses rfl rfl (by decide) (fun cdv A outer s H E hr => ⟨_, (fss_cons (fst_if (ft_ne hr.units (fe_meth0 C_Reader_seen hr (L2N.takes_of rfl rfl rfl rfl) (fe_name 0)) (fe_name 1)) (fss_one (fst_ret fe_bl)) fss_nil)
      (fss_cons (fst_fld (C := "Reader") K_Reader A_Reader_at (fe_name 0) (fe_add (fe_fld (C := "Reader") K_Reader A_Reader_at (fe_name 0)) fe_int))
      (fss_one (fst_ret fe_bl))))⟩)
abbrev sIsNumber : Stmt := topS 11
theorem scIsNumber : FnScope ["word", "sign"] ["word"] (defScope sIsNumber) := ⟨rfl, rfl, rfl, by decide +kernel, rfl, by decide +kernel, by decide +kernel⟩
theorem okIsNumber {f : Addr} {fd : FuncData} {k : Nat} {T : List Addr}
    {cA Pt : Addr} (FB : FunG K mg "is_number" sIsNumber ["word"] f fd cA) (TB : GxR.TabB base mg cA Pt) (hPt : Pt ∈ T ∧ CM.lq.lookup Pt = none)
    (m_int : mg "int" = none)
    (m_all : mg "all" = none)
    (m_len : mg "len" = none)
    {v_MOST_NUMBER : V} (G_MOST_NUMBER : GlobK K mg "MOST_NUMBER" (.int 1000) v_MOST_NUMBER)
    {v_DIGITS : V} (G_DIGITS : GlobK K mg "DIGITS" (.str "0123456789") v_DIGITS) : Callee P w K mg base T "is_number" (k + 2) ["word"] (spF F_is_number) f fd := by
  have nd := scIsNumber.nd
  exact fl_fnG 1 2 _ rfl FB scIsNumber rfl rfl (by decide) (fun cdv hcv A outer s H E hr => ⟨_, (fss_cons (fst_if (FW.ft (fw_or (ft_eq hr.units (fe_name 0) fe_str) (fw_or (ft_gt (fe_len m_len (fa_cons (fe_name 0) fa_nil)) fe_int) (fw_or1 (ft_not (ft_val (fe_allG hr m_all TB hcv hPt nd (fi_seq (fe_name 0)) ⟨(blkOk_by (N := ["word", "sign"]) (sc := defScope sIsNumber) (own := [("sign", 1)]) (by decide +kernel)), (by decide), (by decide), rfl, rfl, (show (".0" : Str) ∉ (["word", "sign"] : List Str) by decide +kernel), (fun _ _ _ _ _ _ => (fg_name 1 nd)), (fun _ _ _ _ _ _ => VE.re (fe_in (by exact ru65 (GX.Room.gen hr _)) (fe_name 1) (fe_gl G_DIGITS)) (by first | rfl | (dsimp only [GX.gcx] <;> rfl)))⟩))))))) (fss_one (fst_ret fe_bl)) fss_nil)
      (fss_one (fst_ret (fe_andB (fe_orB (fe_eq hr.units (fe_name 0) fe_str) (fe_one (fe_ne hr.units (fe_ix (fe_name 0) fe_int) fe_str))) (fe_one (fe_le (fe_intc m_int (fa_cons (fe_name 0) fa_nil)) (fe_gl G_MOST_NUMBER)))))))⟩)
abbrev sReaderRefuse : Stmt := clsB (topS 13) 2
theorem scReaderRefuse : FnScope ["self"] ["self"] (defScope sReaderRefuse) := ⟨rfl, rfl, rfl, by decide +kernel, rfl, by decide +kernel, by decide +kernel⟩
theorem okReaderRefuse {f : Addr} {fd : FuncData} {k : Nat} {T : List Addr}
    (FB : FunM K "Reader" "refuse" "Reader.refuse" sReaderRefuse ["self"] f fd)
    (K_Reader : Cls K (CM.at_ "Reader"))
    (A_Reader_at : NoAttr K (CM.at_ "Reader") "at")
    (E_FaultyText : ExcF P w K mg base "FaultyText" "at")
    (hk2 : 2 ≤ k) : MCallee P w K mg base T "Reader" "refuse" (k + 1) ["self"] (spF F_Reader_refuse_2) f fd := by
  have nd := scReaderRefuse.nd
  exact fl_meth 1 1 _ rfl FB scReaderRefuse rfl rfl (by decide) (fun cdv A outer s H E hr => ⟨_, (fss_one (fst_raise1 E_FaultyText (by exact hr.mono hk2) (L2N.takes_of rfl rfl rfl rfl) (fe_add (fe_fld (C := "Reader") K_Reader A_Reader_at (fe_name 0)) fe_int)))⟩)
abbrev sReaderName : Stmt := clsB (topS 13) 4
theorem scReaderName : FnScope ["self", "word"] ["self"] (defScope sReaderName) := ⟨rfl, rfl, rfl, by decide +kernel, rfl, by decide +kernel, by decide +kernel⟩
theorem okReaderName {f : Addr} {fd : FuncData} {k : Nat} {T : List Addr}
    (FB : FunM K "Reader" "name" "Reader.name" sReaderName ["self"] f fd)
    (K_Reader : Cls K (CM.at_ "Reader"))
    (A_Reader_at : NoAttr K (CM.at_ "Reader") "at")
    {fReaderRefuse : Addr} {fdReaderRefuse : FuncData} (C_Reader_refuse : MCallee P w K mg base T "Reader" "refuse" k ["self"] (spF F_Reader_refuse_2) fReaderRefuse fdReaderRefuse)
    {fReaderSeen : Addr} {fdReaderSeen : FuncData} (C_Reader_seen : MCallee P w K mg base T "Reader" "seen" k ["self"] (spF F_Reader_seen) fReaderSeen fdReaderSeen)
    (m_len : mg "len" = none)
    {v_LONGEST_WORD : V} (G_LONGEST_WORD : GlobK K mg "LONGEST_WORD" (.int 8) v_LONGEST_WORD)
    {v_RESERVED : V} (G_RESERVED : GlobK K mg "RESERVED" (.tup [(.str "sum"), (.str "where"), (.str "in"), (.str "and")]) v_RESERVED)
    {v_LETTERS : V} (G_LETTERS : GlobK K mg "LETTERS" (.str "abcdefghijklmnopqrstuvwxyz") v_LETTERS) : MCallee P w K mg base T "Reader" "name" (k + 1) ["self"] (spF F_Reader_name_2) f fd := by
  have nd := scReaderName.nd
  exact fl_meth 1 2 _ rfl FB scReaderName rfl rfl (by decide) (fun cdv A outer s H E hr => ⟨_, (fss_cons (fst_set 1 nd (fe_meth0 C_Reader_seen hr (L2N.takes_of rfl rfl rfl rfl) (fe_name 0)))
      (fss_cons (fst_if (FW.ft (fw_or (ft_eq hr.units (fe_name 1) fe_str) (fw_or (ft_nin (ru65 hr) (fe_ix (fe_name 1) fe_int) (fe_gl G_LETTERS)) (fw_or (ft_in (ru65 hr) (fe_name 1) (fe_gl G_RESERVED)) (fw_or1 (ft_gt (fe_len m_len (fa_cons (fe_name 1) fa_nil)) (fe_gl G_LONGEST_WORD))))))) (fss_one (fst_expr (fe_meth0 C_Reader_refuse hr (L2N.takes_of rfl rfl rfl rfl) (fe_name 0)))) fss_nil)
      (fss_cons (fst_fld (C := "Reader") K_Reader A_Reader_at (fe_name 0) (fe_add (fe_fld (C := "Reader") K_Reader A_Reader_at (fe_name 0)) fe_int))
      (fss_one (fst_ret (fe_name 1))))))⟩)
abbrev sReaderPath : Stmt := clsB (topS 13) 5
theorem scReaderPath : FnScope ["self", "found"] ["self"] (defScope sReaderPath) := ⟨rfl, rfl, rfl, by decide +kernel, rfl, by decide +kernel, by decide +kernel⟩
theorem okReaderPath {f : Addr} {fd : FuncData} {k : Nat} {T : List Addr}
    (FB : FunM K "Reader" "path" "Reader.path" sReaderPath ["self"] f fd)
    {fReaderPasses : Addr} {fdReaderPasses : FuncData} (C_Reader_passes : MCallee P w K mg base T "Reader" "passes" k ["self", "word"] (spF F_Reader_passes) fReaderPasses fdReaderPasses)
    {fReaderName : Addr} {fdReaderName : FuncData} (C_Reader_name : MCallee P w K mg base T "Reader" "name" k ["self"] (spF F_Reader_name_2) fReaderName fdReaderName) : MCallee P w K mg base T "Reader" "path" (k + 1) ["self"] (spF F_Reader_path_2) f fd := by
  have nd := scReaderPath.nd
  exact fl_meth 1 2 _ rfl FB scReaderPath rfl rfl (by decide) (fun cdv A outer s H E hr => ⟨_, (fss_cons (fst_set 1 nd (fe_meth0 C_Reader_name hr (L2N.takes_of rfl rfl rfl rfl) (fe_name 0)))
      (fss_cons (fst_while (passes_of rfl) (ft_val (fe_meth C_Reader_passes hr (L2N.takes_of rfl rfl rfl rfl) (fe_name 0) (fa_cons fe_str fa_nil))) (fss_one (fst_set 1 nd (fe_add (fe_add (fe_name 1) fe_str) (fe_meth0 C_Reader_name hr (L2N.takes_of rfl rfl rfl rfl) (fe_name 0))))))
      (fss_one (fst_ret (fe_name 1)))))⟩)
abbrev sReaderCondition : Stmt := clsB (topS 13) 6
theorem scReaderCondition : FnScope ["self", "name", "paths"] ["self"] (defScope sReaderCondition) := ⟨rfl, rfl, rfl, by decide +kernel, rfl, by decide +kernel, by decide +kernel⟩
theorem okReaderCondition {f : Addr} {fd : FuncData} {k : Nat} {T : List Addr}
    (FB : FunM K "Reader" "condition" "Reader.condition" sReaderCondition ["self"] f fd)
    {fReaderPasses : Addr} {fdReaderPasses : FuncData} (C_Reader_passes : MCallee P w K mg base T "Reader" "passes" k ["self", "word"] (spF F_Reader_passes) fReaderPasses fdReaderPasses)
    {fReaderPath : Addr} {fdReaderPath : FuncData} (C_Reader_path : MCallee P w K mg base T "Reader" "path" k ["self"] (spF F_Reader_path_2) fReaderPath fdReaderPath)
    {fReaderRefuse : Addr} {fdReaderRefuse : FuncData} (C_Reader_refuse : MCallee P w K mg base T "Reader" "refuse" k ["self"] (spF F_Reader_refuse_2) fReaderRefuse fdReaderRefuse)
    {fReaderName : Addr} {fdReaderName : FuncData} (C_Reader_name : MCallee P w K mg base T "Reader" "name" k ["self"] (spF F_Reader_name_2) fReaderName fdReaderName)
    (m_tuple : mg "tuple" = none) : MCallee P w K mg base T "Reader" "condition" (k + 1) ["self"] (spF F_Reader_condition_2) f fd := by
  have nd := scReaderCondition.nd
  exact fl_meth 1 3 _ rfl FB scReaderCondition rfl rfl (by decide) (fun cdv A outer s H E hr => ⟨_, (fss_cons (fst_set 1 nd (fe_meth0 C_Reader_name hr (L2N.takes_of rfl rfl rfl rfl) (fe_name 0)))
      (fss_cons (fst_if (ft_not (ft_val (fe_meth C_Reader_passes hr (L2N.takes_of rfl rfl rfl rfl) (fe_name 0) (fa_cons fe_str fa_nil)))) (fss_one (fst_expr (fe_meth0 C_Reader_refuse hr (L2N.takes_of rfl rfl rfl rfl) (fe_name 0)))) fss_nil)
      (fss_cons (fst_own 2 nd (fe_lst (fa_cons (fe_meth0 C_Reader_path hr (L2N.takes_of rfl rfl rfl rfl) (fe_name 0)) fa_nil)))
      (fss_cons (fst_while (passes_of rfl) (ft_val (fe_meth C_Reader_passes hr (L2N.takes_of rfl rfl rfl rfl) (fe_name 0) (fa_cons fe_str fa_nil))) (fss_one (fst_expr (fe_append (fe_name 2) (fe_meth0 C_Reader_path hr (L2N.takes_of rfl rfl rfl rfl) (fe_name 0))))))
      (fss_one (fst_ret (fe_tup (fa_cons (fe_name 1) (fa_cons (fe_tuplec m_tuple (fa_cons (fe_name 2) fa_nil)) fa_nil)))))))))⟩)
abbrev sReaderFactor : Stmt := clsB (topS 13) 7
theorem scReaderFactor : FnScope ["self", "level", "tree", "conditions"] ["self", "level"] (defScope sReaderFactor) := ⟨rfl, rfl, rfl, by decide +kernel, rfl, by decide +kernel, by decide +kernel⟩
theorem okReaderFactor {f : Addr} {fd : FuncData} {k n : Nat} {T : List Addr}
    (FB : FunM K "Reader" "factor" "Reader.factor" sReaderFactor ["self", "level"] f fd)
    (K_Reader : Cls K (CM.at_ "Reader"))
    (A_Reader_at : NoAttr K (CM.at_ "Reader") "at")
    {fReaderPasses : Addr} {fdReaderPasses : FuncData} (C_Reader_passes : MCallee P w K mg base T "Reader" "passes" k ["self", "word"] (spF F_Reader_passes) fReaderPasses fdReaderPasses)
    {fReaderCondition : Addr} {fdReaderCondition : FuncData} (C_Reader_condition : MCallee P w K mg base T "Reader" "condition" k ["self"] (spF F_Reader_condition_2) fReaderCondition fdReaderCondition)
    {fReaderRefuse : Addr} {fdReaderRefuse : FuncData} (C_Reader_refuse : MCallee P w K mg base T "Reader" "refuse" k ["self"] (spF F_Reader_refuse_2) fReaderRefuse fdReaderRefuse)
    {fReaderSeen : Addr} {fdReaderSeen : FuncData} (C_Reader_seen : MCallee P w K mg base T "Reader" "seen" k ["self"] (spF F_Reader_seen) fReaderSeen fdReaderSeen)
    {fReaderExpression : Addr} {fdReaderExpression : FuncData} (C_Reader_expression : MCallee P w K mg base T "Reader" "expression" k ["self", "level"] (spF (F_Reader_expression_2 n)) fReaderExpression fdReaderExpression)
    (m_tuple : mg "tuple" = none)
    {v_MOST_NESTING : V} (G_MOST_NESTING : GlobK K mg "MOST_NESTING" (.int 10) v_MOST_NESTING) : MCallee P w K mg base T "Reader" "factor" (k + 1) ["self", "level"] (spF (F_Reader_factor_2 (F_Reader_expression_2 n))) f fd := by
  have nd := scReaderFactor.nd
  exact fl_meth 2 4 _ rfl FB scReaderFactor rfl rfl (by decide) (fun cdv A outer s H E hr => ⟨_, (fss_cons (fst_kill [2] (fst_if (FW.ft (fw_and (ft_eq hr.units (fe_meth0 C_Reader_seen hr (L2N.takes_of rfl rfl rfl rfl) (fe_name 0)) fe_str) (fw_and1 (ft_lt (fe_name 1) (fe_gl G_MOST_NESTING))))) (fss_cons (fst_fld (C := "Reader") K_Reader A_Reader_at (fe_name 0) (fe_add (fe_fld (C := "Reader") K_Reader A_Reader_at (fe_name 0)) fe_int))
      (fss_cons (fst_set 2 nd (fe_meth C_Reader_expression hr (L2N.takes_of rfl rfl rfl rfl) (fe_name 0) (fa_cons (fe_add (fe_name 1) fe_int) fa_nil)))
      (fss_cons (fst_if (ft_not (ft_val (fe_meth C_Reader_passes hr (L2N.takes_of rfl rfl rfl rfl) (fe_name 0) (fa_cons fe_str fa_nil)))) (fss_one (fst_expr (fe_meth0 C_Reader_refuse hr (L2N.takes_of rfl rfl rfl rfl) (fe_name 0)))) fss_nil)
      (fss_one (fst_ret (fe_name 2)))))) fss_nil))
      (fss_cons (fst_if (ft_not (ft_val (fe_meth C_Reader_passes hr (L2N.takes_of rfl rfl rfl rfl) (fe_name 0) (fa_cons fe_str fa_nil)))) (fss_one (fst_expr (fe_meth0 C_Reader_refuse hr (L2N.takes_of rfl rfl rfl rfl) (fe_name 0)))) fss_nil)
      (fss_cons (fst_own 3 nd (fe_lst fa_nil))
      (fss_cons (fst_if (ft_val (fe_meth C_Reader_passes hr (L2N.takes_of rfl rfl rfl rfl) (fe_name 0) (fa_cons fe_str fa_nil))) (fss_cons (fst_expr (fe_append (fe_name 3) (fe_meth0 C_Reader_condition hr (L2N.takes_of rfl rfl rfl rfl) (fe_name 0))))
      (fss_one (fst_while (passes_of rfl) (ft_val (fe_meth C_Reader_passes hr (L2N.takes_of rfl rfl rfl rfl) (fe_name 0) (fa_cons fe_str fa_nil))) (fss_one (fst_expr (fe_append (fe_name 3) (fe_meth0 C_Reader_condition hr (L2N.takes_of rfl rfl rfl rfl) (fe_name 0)))))))) fss_nil)
      (fss_one (fst_ret (fe_tup (fa_cons fe_str (fa_cons (fe_tuplec m_tuple (fa_cons (fe_name 3) fa_nil)) fa_nil)))))))))⟩)
abbrev sReaderTerm : Stmt := clsB (topS 13) 8
theorem scReaderTerm : FnScope ["self", "level", "number"] ["self", "level"] (defScope sReaderTerm) := ⟨rfl, rfl, rfl, by decide +kernel, rfl, by decide +kernel, by decide +kernel⟩
theorem okReaderTerm {f : Addr} {fd : FuncData} {k n : Nat} {T : List Addr}
    (FB : FunM K "Reader" "term" "Reader.term" sReaderTerm ["self", "level"] f fd)
    (K_Reader : Cls K (CM.at_ "Reader"))
    (A_Reader_at : NoAttr K (CM.at_ "Reader") "at")
    {fReaderFactor : Addr} {fdReaderFactor : FuncData} (C_Reader_factor : MCallee P w K mg base T "Reader" "factor" k ["self", "level"] (spF (F_Reader_factor_2 (F_Reader_expression_2 n))) fReaderFactor fdReaderFactor)
    {fReaderPasses : Addr} {fdReaderPasses : FuncData} (C_Reader_passes : MCallee P w K mg base T "Reader" "passes" k ["self", "word"] (spF F_Reader_passes) fReaderPasses fdReaderPasses)
    {fReaderRefuse : Addr} {fdReaderRefuse : FuncData} (C_Reader_refuse : MCallee P w K mg base T "Reader" "refuse" k ["self"] (spF F_Reader_refuse_2) fReaderRefuse fdReaderRefuse)
    {fReaderSeen : Addr} {fdReaderSeen : FuncData} (C_Reader_seen : MCallee P w K mg base T "Reader" "seen" k ["self"] (spF F_Reader_seen) fReaderSeen fdReaderSeen)
    {fIsNumber : Addr} {fdIsNumber : FuncData} (C_is_number : Callee P w K mg base T "is_number" k ["word"] (spF F_is_number) fIsNumber fdIsNumber)
    (m_int : mg "int" = none) : MCallee P w K mg base T "Reader" "term" (k + 1) ["self", "level"] (spF (F_Reader_term_2 (F_Reader_expression_2 n))) f fd := by
  have nd := scReaderTerm.nd
  exact fl_meth 2 3 _ rfl FB scReaderTerm rfl rfl (by decide) (fun cdv A outer s H E hr => ⟨_, (fss_cons (fst_if (ft_not (ft_val (fe_fn C_is_number hr (L2N.takes_of rfl rfl rfl rfl) (fa_cons (fe_meth0 C_Reader_seen hr (L2N.takes_of rfl rfl rfl rfl) (fe_name 0)) fa_nil)))) (fss_one (fst_ret (fe_meth C_Reader_factor hr (L2N.takes_of rfl rfl rfl rfl) (fe_name 0) (fa_cons (fe_name 1) fa_nil)))) fss_nil)
      (fss_cons (fst_set 2 nd (fe_intc m_int (fa_cons (fe_meth0 C_Reader_seen hr (L2N.takes_of rfl rfl rfl rfl) (fe_name 0)) fa_nil)))
      (fss_cons (fst_fld (C := "Reader") K_Reader A_Reader_at (fe_name 0) (fe_add (fe_fld (C := "Reader") K_Reader A_Reader_at (fe_name 0)) fe_int))
      (fss_cons (fst_if (ft_not (ft_val (fe_meth C_Reader_passes hr (L2N.takes_of rfl rfl rfl rfl) (fe_name 0) (fa_cons fe_str fa_nil)))) (fss_one (fst_expr (fe_meth0 C_Reader_refuse hr (L2N.takes_of rfl rfl rfl rfl) (fe_name 0)))) fss_nil)
      (fss_one (fst_ret (fe_tup (fa_cons fe_str (fa_cons (fe_name 2) (fa_cons (fe_meth C_Reader_factor hr (L2N.takes_of rfl rfl rfl rfl) (fe_name 0) (fa_cons (fe_name 1) fa_nil)) fa_nil))))))))))⟩)
abbrev sReaderExpression : Stmt := clsB (topS 13) 9
theorem scReaderExpression : FnScope ["self", "level", "tree", "sign"] ["self", "level"] (defScope sReaderExpression) := ⟨rfl, rfl, rfl, by decide +kernel, rfl, by decide +kernel, by decide +kernel⟩
theorem okReaderExpression {f : Addr} {fd : FuncData} {k n : Nat} {T : List Addr}
    (FB : FunM K "Reader" "expression" "Reader.expression" sReaderExpression ["self", "level"] f fd)
    (K_Reader : Cls K (CM.at_ "Reader"))
    (A_Reader_at : NoAttr K (CM.at_ "Reader") "at")
    {fReaderSeen : Addr} {fdReaderSeen : FuncData} (C_Reader_seen : MCallee P w K mg base T "Reader" "seen" k ["self"] (spF F_Reader_seen) fReaderSeen fdReaderSeen)
    {fReaderTerm : Addr} {fdReaderTerm : FuncData} (C_Reader_term : MCallee P w K mg base T "Reader" "term" k ["self", "level"] (spF (F_Reader_term_2 (F_Reader_expression_2 n))) fReaderTerm fdReaderTerm)
    {fReaderPasses : Addr} {fdReaderPasses : FuncData} (C_Reader_passes : MCallee P w K mg base T "Reader" "passes" k ["self", "word"] (spF F_Reader_passes) fReaderPasses fdReaderPasses) : MCallee P w K mg base T "Reader" "expression" (k + 1) ["self", "level"] (spF (F_Reader_expression_2 (n + 1))) f fd := by
  have nd := scReaderExpression.nd
  exact fl_meth 2 4 _ rfl FB scReaderExpression rfl rfl (by decide) (fun cdv A outer s H E hr => ⟨_, (fss_cons (fst_if (ft_val (fe_meth C_Reader_passes hr (L2N.takes_of rfl rfl rfl rfl) (fe_name 0) (fa_cons fe_str fa_nil))) (fss_one (fst_set 2 nd (fe_tup (fa_cons fe_str (fa_cons (fe_meth C_Reader_term hr (L2N.takes_of rfl rfl rfl rfl) (fe_name 0) (fa_cons (fe_name 1) fa_nil)) fa_nil))))) (fss_one (fst_set 2 nd (fe_meth C_Reader_term hr (L2N.takes_of rfl rfl rfl rfl) (fe_name 0) (fa_cons (fe_name 1) fa_nil)))))
      (fss_cons (fst_while (passes_of rfl) (FW.ft (fw_or (ft_eq hr.units (fe_meth0 C_Reader_seen hr (L2N.takes_of rfl rfl rfl rfl) (fe_name 0)) fe_str) (fw_or1 (ft_eq hr.units (fe_meth0 C_Reader_seen hr (L2N.takes_of rfl rfl rfl rfl) (fe_name 0)) fe_str)))) (fss_kill [3] (fss_cons (fst_set 3 nd (fe_meth0 C_Reader_seen hr (L2N.takes_of rfl rfl rfl rfl) (fe_name 0)))
      (fss_cons (fst_fld (C := "Reader") K_Reader A_Reader_at (fe_name 0) (fe_add (fe_fld (C := "Reader") K_Reader A_Reader_at (fe_name 0)) fe_int))
      (fss_one (fst_set 2 nd (fe_tup (fa_cons (fe_if (ft_eq hr.units (fe_name 3) fe_str) fe_str fe_str) (fa_cons (fe_name 2) (fa_cons (fe_meth C_Reader_term hr (L2N.takes_of rfl rfl rfl rfl) (fe_name 0) (fa_cons (fe_name 1) fa_nil)) fa_nil))))))))))
      (fss_one (fst_ret (fe_name 2)))))⟩)
abbrev sReadExpression : Stmt := topS 14
theorem scReadExpression : FnScope ["text", "reader", "tree"] ["text"] (defScope sReadExpression) := ⟨rfl, rfl, rfl, by decide +kernel, rfl, by decide +kernel, by decide +kernel⟩
theorem okReadExpression {f : Addr} {fd : FuncData} {k : Nat} {T : List Addr}
    (FB : FunB K mg "read_expression" sReadExpression ["text"] f fd)
    {fReaderSeen : Addr} {fdReaderSeen : FuncData} (C_Reader_seen : MCallee P w K mg base T "Reader" "seen" k ["self"] (spF F_Reader_seen) fReaderSeen fdReaderSeen)
    {fReaderRefuse : Addr} {fdReaderRefuse : FuncData} (C_Reader_refuse : MCallee P w K mg base T "Reader" "refuse" k ["self"] (spF F_Reader_refuse_2) fReaderRefuse fdReaderRefuse)
    {fReaderExpression : Addr} {fdReaderExpression : FuncData} (C_Reader_expression : MCallee P w K mg base T "Reader" "expression" k ["self", "level"] (spF (F_Reader_expression_2 12)) fReaderExpression fdReaderExpression)
    {fReaderInit : Addr} {fdReaderInit : FuncData} {kc_Reader___init__ : Nat} (hk_Reader___init__ : kc_Reader___init__ + 1 ≤ k) (C_Reader___init__ : CCallee P w K mg base T "Reader" kc_Reader___init__ ["self", "text"] (spF F_Reader___init) fReaderInit fdReaderInit) : Callee P w K mg base T "read_expression" (k + 1) ["text"] (spF F_read_expression_2) f fd := by
  have nd := scReadExpression.nd
  exact fl_fn 1 3 _ rfl FB scReadExpression rfl rfl (by decide) (fun cdv A outer s H E hr => ⟨_, (fss_cons (fst_own 1 nd (fe_makeK hk_Reader___init__ C_Reader___init__ hr (L2N.takes_of rfl rfl rfl rfl) (fa_cons (fe_name 0) fa_nil)))
      (fss_cons (fst_set 2 nd (fe_meth C_Reader_expression hr (L2N.takes_of rfl rfl rfl rfl) (fe_name 1) (fa_cons fe_int fa_nil)))
      (fss_cons (fst_if (ft_ne hr.units (fe_meth0 C_Reader_seen hr (L2N.takes_of rfl rfl rfl rfl) (fe_name 1)) fe_str) (fss_one (fst_expr (fe_meth0 C_Reader_refuse hr (L2N.takes_of rfl rfl rfl rfl) (fe_name 1)))) fss_nil)
      (fss_one (fst_ret (fe_name 2))))))⟩)
abbrev sLaw : Stmt := topS 35
theorem scLaw : FnScope ["_law_script", "_law_dimensions", "_law_k", "_law_tree_here", "_law_text"] ["_law_script"] (defScope sLaw) := ⟨rfl, rfl, rfl, by decide +kernel, rfl, by decide +kernel, by decide +kernel⟩
theorem okLaw {f : Addr} {fd : FuncData} {k : Nat} {T : List Addr}
    (FB : FunB K mg "law" sLaw ["_law_script"] f fd)
    {fLawSame : Addr} {fdLawSame : FuncData} (C__law_same : Callee P w K mg base T "_law_same" k ["_law_actual", "_law_due"] (spF (F_law_same 10)) fLawSame fdLawSame)
    {fReadExpression : Addr} {fdReadExpression : FuncData} (C_read_expression : Callee P w K mg base T "read_expression" k ["text"] (spF F_read_expression_2) fReadExpression fdReadExpression)
    {fLawTreeText : Addr} {fdLawTreeText : FuncData} (C__law_tree_text : Callee P w K mg base T "_law_tree_text" k ["_law_box_here", "_law_tree_here"] (spF (F_law_tree_text 5)) fLawTreeText fdLawTreeText)
    {fLawBox : Addr} {fdLawBox : FuncData} (C__law_box : Callee P w K mg base T "_law_box" k ["_law_script", "_law_at"] (spF F_law_box) fLawBox fdLawBox)
    {fLawTree : Addr} {fdLawTree : FuncData} (C__law_tree : Callee P w K mg base T "_law_tree" k ["_law_box_here", "_law_dimensions", "_law_depth"] (spF (F_law_tree 5)) fLawTree fdLawTree)
    {fLawWide : Addr} {fdLawWide : FuncData} (C__law_wide : Callee P w K mg base T "_law_wide" k ["_law_script", "_law_first", "_law_cells_left"] (spF F_law_wide) fLawWide fdLawWide)
    (m_range : mg "range" = none)
    (m_len : mg "len" = none) : Callee P w K mg base T "law" (k + 1) ["_law_script"] (spF F_law_k09) f fd := by
  have nd := scLaw.nd
  exact fl_fn 1 5 _ rfl FB scLaw rfl rfl (by decide) (fun cdv A outer s H E hr => ⟨_, (fss_cons (fst_set 1 nd (fe_fn C__law_wide hr (L2N.takes_of rfl rfl rfl rfl) (fa_cons (fe_name 0) (fa_cons fe_int (fa_cons fe_int fa_nil)))))
      (fss_cons (fst_for (passes_of rfl) (fi_range1 m_range fe_int) (fg_name 2 nd) (fss_kill [2, 3, 4] (fss_cons (fst_set 3 nd (fe_fnT C__law_tree hr (L2N.takes_of rfl rfl rfl rfl) (fe_fn C__law_box hr (L2N.takes_of rfl rfl rfl rfl) (fa_cons (fe_name 0) (fa_cons (fe_add fe_int (fe_name 2)) fa_nil))) (fa_cons (fe_name 1) (fa_cons (fe_add fe_int (fe_name 2)) fa_nil))))
      (fss_cons (fst_set 4 nd (fe_fnT C__law_tree_text hr (L2N.takes_of rfl rfl rfl rfl) (fe_fn C__law_box hr (L2N.takes_of rfl rfl rfl rfl) (fa_cons (fe_name 0) (fa_cons (fe_add fe_int (fe_name 2)) fa_nil))) (fa_cons (fe_name 3) fa_nil)))
      (fss_one (fst_if (FW.ft (fw_and (ft_le (fe_len m_len (fa_cons (fe_name 4) fa_nil)) fe_int) (fw_and1 (ft_not (ft_val (fe_fn C__law_same hr (L2N.takes_of rfl rfl rfl rfl) (fa_cons (fe_fn C_read_expression hr (L2N.takes_of rfl rfl rfl rfl) (fa_cons (fe_name 4) fa_nil)) (fa_cons (fe_name 3) fa_nil)))))))) (fss_one (fst_ret fe_bl)) fss_nil))))))
      (fss_one (fst_ret fe_bl))))⟩)
abbrev sFaultyTextInit : Stmt := clsB (topS 2) 0
end
end K09
set_option Elab.async false
set_option linter.all false
set_option maxRecDepth 100000
set_option maxHeartbeats 4000000
namespace K09
open PySem PySem.Spec PyProof.Rows L2 VL
section
variable {P : Program} {w : World} {K : PySem.W.Frag} {mg : Str → Option Value} {base : Heap}
set_option maxHeartbeats 0 in
theorem ok_all [CM]
    {T : List Addr}
    {fLawDigits : Addr} {dLawDigits : FuncData} (FLawDigits : FunB K mg "_law_digits" sLawDigits ["_law_cell_here", "_law_at"] fLawDigits dLawDigits)
    {fLawCell : Addr} {dLawCell : FuncData} (FLawCell : FunB K mg "_law_cell" sLawCell ["_law_script", "_law_k"] fLawCell dLawCell)
    {fLawBox : Addr} {dLawBox : FuncData} (FLawBox : FunB K mg "_law_box" sLawBox ["_law_script", "_law_at"] fLawBox dLawBox)
    {fLawDraw : Addr} {dLawDraw : FuncData} (FLawDraw : FunB K mg "_law_draw" sLawDraw ["_law_box_here", "_law_many"] fLawDraw dLawDraw)
    {fLawWord : Addr} {dLawWord : FuncData} (FLawWord : FunB K mg "_law_word" sLawWord ["_law_box_here", "_law_taken"] fLawWord dLawWord)
    {fLawPlainLeaves : Addr} {dLawPlainLeaves : FuncData} (FLawPlainLeaves : FunB K mg "_law_plain_leaves" sLawPlainLeaves ["_law_depth", "_law_many"] fLawPlainLeaves dLawPlainLeaves)
    {fLawLeaves : Addr} {dLawLeaves : FuncData} (FLawLeaves : FunB K mg "_law_leaves" sLawLeaves ["_law_box_here", "_law_depth", "_law_many"] fLawLeaves dLawLeaves)
    {fLawWide : Addr} {dLawWide : FuncData} (FLawWide : FunB K mg "_law_wide" sLawWide ["_law_script", "_law_first", "_law_cells_left"] fLawWide dLawWide)
    {fLawPrefix : Addr} {dLawPrefix : FuncData} (FLawPrefix : FunB K mg "_law_prefix" sLawPrefix ["_law_path", "_law_level_here"] fLawPrefix dLawPrefix)
    {fLawLevel : Addr} {dLawLevel : FuncData} (FLawLevel : FunB K mg "_law_level" sLawLevel ["_law_path"] fLawLevel dLawLevel)
    {fLawACondition : Addr} {dLawACondition : FuncData} (FLawACondition : FunB K mg "_law_a_condition" sLawACondition ["_law_box_here", "_law_dimensions"] fLawACondition dLawACondition)
    {fLawTree : Addr} {dLawTree : FuncData} (FLawTree : FunB K mg "_law_tree" sLawTree ["_law_box_here", "_law_dimensions", "_law_depth"] fLawTree dLawTree)
    {fLawGap : Addr} {dLawGap : FuncData} (FLawGap : FunB K mg "_law_gap" sLawGap ["_law_box_here"] fLawGap dLawGap)
    {fLawConditionsText : Addr} {dLawConditionsText : FuncData} (FLawConditionsText : FunB K mg "_law_conditions_text" sLawConditionsText ["_law_box_here", "_law_conditions"] fLawConditionsText dLawConditionsText)
    {fLawFactorText : Addr} {dLawFactorText : FuncData} (FLawFactorText : FunB K mg "_law_factor_text" sLawFactorText ["_law_box_here", "_law_tree_here"] fLawFactorText dLawFactorText)
    {fLawTermText : Addr} {dLawTermText : FuncData} (FLawTermText : FunB K mg "_law_term_text" sLawTermText ["_law_box_here", "_law_tree_here"] fLawTermText dLawTermText)
    {fLawTreeText : Addr} {dLawTreeText : FuncData} (FLawTreeText : FunB K mg "_law_tree_text" sLawTreeText ["_law_box_here", "_law_tree_here"] fLawTreeText dLawTreeText)
    {fLawIsInteger : Addr} {dLawIsInteger : FuncData} (FLawIsInteger : FunB K mg "_law_is_integer" sLawIsInteger ["_law_actual"] fLawIsInteger dLawIsInteger)
    {fLawSame : Addr} {dLawSame : FuncData} (FLawSame : FunB K mg "_law_same" sLawSame ["_law_actual", "_law_due"] fLawSame dLawSame)
    {fRunEnd : Addr} {dRunEnd : FuncData} (FRunEnd : FunB K mg "run_end" sRunEnd ["text", "at", "signs"] fRunEnd dRunEnd)
    {fTokens : Addr} {dTokens : FuncData} (FTokens : FunB K mg "tokens" sTokens ["text"] fTokens dTokens)
    {fReaderInit : Addr} {dReaderInit : FuncData} (FReaderInit : FunI K mg "Reader" "Reader.__init__" sReaderInit ["self", "text"] fReaderInit dReaderInit)
    {fReaderSeen : Addr} {dReaderSeen : FuncData} (FReaderSeen : FunM K "Reader" "seen" "Reader.seen" sReaderSeen ["self"] fReaderSeen dReaderSeen)
    {fReaderPasses : Addr} {dReaderPasses : FuncData} (FReaderPasses : FunM K "Reader" "passes" "Reader.passes" sReaderPasses ["self", "word"] fReaderPasses dReaderPasses)
    {fIsNumber cAIsNumber PIsNumber : Addr} {dIsNumber : FuncData} (FIsNumber : FunG K mg "is_number" sIsNumber ["word"] fIsNumber dIsNumber cAIsNumber) (TBIsNumber : GxR.TabB base mg cAIsNumber PIsNumber) (hPIsNumber : PIsNumber ∈ T ∧ CM.lq.lookup PIsNumber = none)
    {fReaderRefuse : Addr} {dReaderRefuse : FuncData} (FReaderRefuse : FunM K "Reader" "refuse" "Reader.refuse" sReaderRefuse ["self"] fReaderRefuse dReaderRefuse)
    {fReaderName : Addr} {dReaderName : FuncData} (FReaderName : FunM K "Reader" "name" "Reader.name" sReaderName ["self"] fReaderName dReaderName)
    {fReaderPath : Addr} {dReaderPath : FuncData} (FReaderPath : FunM K "Reader" "path" "Reader.path" sReaderPath ["self"] fReaderPath dReaderPath)
    {fReaderCondition : Addr} {dReaderCondition : FuncData} (FReaderCondition : FunM K "Reader" "condition" "Reader.condition" sReaderCondition ["self"] fReaderCondition dReaderCondition)
    {fReaderFactor : Addr} {dReaderFactor : FuncData} (FReaderFactor : FunM K "Reader" "factor" "Reader.factor" sReaderFactor ["self", "level"] fReaderFactor dReaderFactor)
    {fReaderTerm : Addr} {dReaderTerm : FuncData} (FReaderTerm : FunM K "Reader" "term" "Reader.term" sReaderTerm ["self", "level"] fReaderTerm dReaderTerm)
    {fReaderExpression : Addr} {dReaderExpression : FuncData} (FReaderExpression : FunM K "Reader" "expression" "Reader.expression" sReaderExpression ["self", "level"] fReaderExpression dReaderExpression)
    {fReadExpression : Addr} {dReadExpression : FuncData} (FReadExpression : FunB K mg "read_expression" sReadExpression ["text"] fReadExpression dReadExpression)
    {fLaw : Addr} {dLaw : FuncData} (FLaw : FunB K mg "law" sLaw ["_law_script"] fLaw dLaw)
    (K_Reader : Cls K (CM.at_ "Reader"))
    (A_Reader_at : NoAttr K (CM.at_ "Reader") "at")
    (A_Reader_words : NoAttr K (CM.at_ "Reader") "words")
    (E_FaultyText : ExcF P w K mg base "FaultyText" "at")
    (m_range : mg "range" = none)
    (m_int : mg "int" = none)
    (m_len : mg "len" = none)
    (m_tuple : mg "tuple" = none)
    (m_sorted : mg "sorted" = none)
    (m_min : mg "min" = none)
    (m_NB : VL.nbIn K = true)
    (m_str : mg "str" = none)
    (m_isinstance : mg "isinstance" = none)
    (m_bool : mg "bool" = none)
    (m_all : mg "all" = none)
    (m_max : mg "max" = none)
    {v_DIGITS : V} (G_DIGITS : GlobK K mg "DIGITS" (.str "0123456789") v_DIGITS)
    {v_LETTERS : V} (G_LETTERS : GlobK K mg "LETTERS" (.str "abcdefghijklmnopqrstuvwxyz") v_LETTERS)
    {v_MOST_NUMBER : V} (G_MOST_NUMBER : GlobK K mg "MOST_NUMBER" (.int 1000) v_MOST_NUMBER)
    {v_LONGEST_WORD : V} (G_LONGEST_WORD : GlobK K mg "LONGEST_WORD" (.int 8) v_LONGEST_WORD)
    {v_RESERVED : V} (G_RESERVED : GlobK K mg "RESERVED" (.tup [(.str "sum"), (.str "where"), (.str "in"), (.str "and")]) v_RESERVED)
    {v_MOST_NESTING : V} (G_MOST_NESTING : GlobK K mg "MOST_NESTING" (.int 10) v_MOST_NESTING) : FnOk P w K mg base (L2N.CX P w) 45 fLaw dLaw ["_law_script"] (spOf K T (spF F_law_k09)) := by
  have CLawDigits := okLawDigits (P := P) (w := w) (K := K) (mg := mg) (base := base) (T := T) (k := 0) FLawDigits    (m_range := m_range) (m_int := m_int)
  have CLawCell := okLawCell (P := P) (w := w) (K := K) (mg := mg) (base := base) (T := T) (k := 0) FLawCell    (m_len := m_len) (m_int := m_int)
  have CLawBox := okLawBox (P := P) (w := w) (K := K) (mg := mg) (base := base) (T := T) (k := 1) FLawBox  (C__law_digits := (CLawDigits.mono (by decide))) (C__law_cell := (CLawCell.mono (by decide)))  
  have CLawDraw := okLawDraw (P := P) (w := w) (K := K) (mg := mg) (base := base) (T := T) (k := 0) FLawDraw    (m_len := m_len) (m_int := m_int)
  have CLawWord := okLawWord (P := P) (w := w) (K := K) (mg := mg) (base := base) (T := T) (k := 1) FLawWord  (C__law_draw := (CLawDraw.mono (by decide)))  (m_range := m_range)
  have CLawPlainLeaves := okLawPlainLeaves (P := P) (w := w) (K := K) (mg := mg) (base := base) (T := T) (k := 0) FLawPlainLeaves    (m_tuple := m_tuple) (m_range := m_range)
  have CLawLeaves := okLawLeaves (P := P) (w := w) (K := K) (mg := mg) (base := base) (T := T) (k := 2) FLawLeaves  (C__law_draw := (CLawDraw.mono (by decide))) (C__law_word := (CLawWord.mono (by decide)))  (m_sorted := m_sorted) (m_tuple := m_tuple) (m_len := m_len) (m_range := m_range)
  have CLawWide := okLawWide (P := P) (w := w) (K := K) (mg := mg) (base := base) (T := T) (k := 3) FLawWide  (C__law_draw := (CLawDraw.mono (by decide))) (C__law_word := (CLawWord.mono (by decide))) (C__law_plain_leaves := (CLawPlainLeaves.mono (by decide))) (C__law_leaves := (CLawLeaves.mono (by decide))) (C__law_box := (CLawBox.mono (by decide)))  (m_tuple := m_tuple) (m_range := m_range) (m_len := m_len) (m_min := m_min)
  have CLawPrefix := okLawPrefix (P := P) (w := w) (K := K) (mg := mg) (base := base) (T := T) (k := 0) FLawPrefix    
  have CLawLevel := okLawLevel (P := P) (w := w) (K := K) (mg := mg) (base := base) (T := T) (k := 0) FLawLevel    (m_len := m_len)
  have CLawACondition := okLawACondition (P := P) (w := w) (K := K) (mg := mg) (base := base) (T := T) (k := 1) FLawACondition  (C__law_draw := (CLawDraw.mono (by decide))) (C__law_prefix := (CLawPrefix.mono (by decide))) (C__law_level := (CLawLevel.mono (by decide)))  (m_tuple := m_tuple) (m_range := m_range) (m_len := m_len)
  have CLawTree_0 : Callee P w K mg base T "_law_tree" 2 ["_law_box_here", "_law_dimensions", "_law_depth"] (spF (F_law_tree 0)) fLawTree dLawTree := VL.Callee.none0 FLawTree
  have CLawTree_1 := okLawTree (P := P) (w := w) (K := K) (mg := mg) (base := base) (T := T) (n := 0) (k := 2) FLawTree  (C__law_tree := (CLawTree_0.mono (by decide))) (C__law_draw := (CLawDraw.mono (by decide))) (C__law_a_condition := (CLawACondition.mono (by decide)))  (m_tuple := m_tuple) (m_range := m_range)
  have CLawTree_2 := okLawTree (P := P) (w := w) (K := K) (mg := mg) (base := base) (T := T) (n := 1) (k := 3) FLawTree  (C__law_tree := (CLawTree_1.mono (by decide))) (C__law_draw := (CLawDraw.mono (by decide))) (C__law_a_condition := (CLawACondition.mono (by decide)))  (m_tuple := m_tuple) (m_range := m_range)
  have CLawTree_3 := okLawTree (P := P) (w := w) (K := K) (mg := mg) (base := base) (T := T) (n := 2) (k := 4) FLawTree  (C__law_tree := (CLawTree_2.mono (by decide))) (C__law_draw := (CLawDraw.mono (by decide))) (C__law_a_condition := (CLawACondition.mono (by decide)))  (m_tuple := m_tuple) (m_range := m_range)
  have CLawTree_4 := okLawTree (P := P) (w := w) (K := K) (mg := mg) (base := base) (T := T) (n := 3) (k := 5) FLawTree  (C__law_tree := (CLawTree_3.mono (by decide))) (C__law_draw := (CLawDraw.mono (by decide))) (C__law_a_condition := (CLawACondition.mono (by decide)))  (m_tuple := m_tuple) (m_range := m_range)
  have CLawTree_5 := okLawTree (P := P) (w := w) (K := K) (mg := mg) (base := base) (T := T) (n := 4) (k := 6) FLawTree  (C__law_tree := (CLawTree_4.mono (by decide))) (C__law_draw := (CLawDraw.mono (by decide))) (C__law_a_condition := (CLawACondition.mono (by decide)))  (m_tuple := m_tuple) (m_range := m_range)
  have CLawTree := CLawTree_5
  have CLawGap := okLawGap (P := P) (w := w) (K := K) (mg := mg) (base := base) (T := T) (k := 1) FLawGap  (C__law_draw := (CLawDraw.mono (by decide)))  
  have CLawConditionsText := okLawConditionsText (P := P) (w := w) (K := K) (mg := mg) (base := base) (T := T) (k := 2) FLawConditionsText  (C__law_gap := (CLawGap.mono (by decide)))  (m_NB := m_NB)
  have CLawTreeText_0 : Callee P w K mg base T "_law_tree_text" 3 ["_law_box_here", "_law_tree_here"] (spF (F_law_tree_text 0)) fLawTreeText dLawTreeText := VL.Callee.none0 FLawTreeText
  have CLawFactorText_0 := okLawFactorText (P := P) (w := w) (K := K) (mg := mg) (base := base) (T := T) (n := 0) (k := 3) FLawFactorText  (C__law_gap := (CLawGap.mono (by decide))) (C__law_tree_text := (CLawTreeText_0.mono (by decide))) (C__law_conditions_text := (CLawConditionsText.mono (by decide))) (C__law_draw := (CLawDraw.mono (by decide)))  (m_len := m_len)
  have CLawTermText_0 := okLawTermText (P := P) (w := w) (K := K) (mg := mg) (base := base) (T := T) (n := 0) (k := 4) FLawTermText  (C__law_factor_text := (CLawFactorText_0.mono (by decide))) (C__law_gap := (CLawGap.mono (by decide)))  (m_str := m_str)
  have CLawTreeText_1 := okLawTreeText (P := P) (w := w) (K := K) (mg := mg) (base := base) (T := T) (n := 0) (k := 5) FLawTreeText  (C__law_term_text := (CLawTermText_0.mono (by decide))) (C__law_gap := (CLawGap.mono (by decide))) (C__law_tree_text := (CLawTreeText_0.mono (by decide)))  
  have CLawFactorText_1 := okLawFactorText (P := P) (w := w) (K := K) (mg := mg) (base := base) (T := T) (n := 1) (k := 6) FLawFactorText  (C__law_gap := (CLawGap.mono (by decide))) (C__law_tree_text := (CLawTreeText_1.mono (by decide))) (C__law_conditions_text := (CLawConditionsText.mono (by decide))) (C__law_draw := (CLawDraw.mono (by decide)))  (m_len := m_len)
  have CLawTermText_1 := okLawTermText (P := P) (w := w) (K := K) (mg := mg) (base := base) (T := T) (n := 1) (k := 7) FLawTermText  (C__law_factor_text := (CLawFactorText_1.mono (by decide))) (C__law_gap := (CLawGap.mono (by decide)))  (m_str := m_str)
  have CLawTreeText_2 := okLawTreeText (P := P) (w := w) (K := K) (mg := mg) (base := base) (T := T) (n := 1) (k := 8) FLawTreeText  (C__law_term_text := (CLawTermText_1.mono (by decide))) (C__law_gap := (CLawGap.mono (by decide))) (C__law_tree_text := (CLawTreeText_1.mono (by decide)))  
  have CLawFactorText_2 := okLawFactorText (P := P) (w := w) (K := K) (mg := mg) (base := base) (T := T) (n := 2) (k := 9) FLawFactorText  (C__law_gap := (CLawGap.mono (by decide))) (C__law_tree_text := (CLawTreeText_2.mono (by decide))) (C__law_conditions_text := (CLawConditionsText.mono (by decide))) (C__law_draw := (CLawDraw.mono (by decide)))  (m_len := m_len)
  have CLawTermText_2 := okLawTermText (P := P) (w := w) (K := K) (mg := mg) (base := base) (T := T) (n := 2) (k := 10) FLawTermText  (C__law_factor_text := (CLawFactorText_2.mono (by decide))) (C__law_gap := (CLawGap.mono (by decide)))  (m_str := m_str)
  have CLawTreeText_3 := okLawTreeText (P := P) (w := w) (K := K) (mg := mg) (base := base) (T := T) (n := 2) (k := 11) FLawTreeText  (C__law_term_text := (CLawTermText_2.mono (by decide))) (C__law_gap := (CLawGap.mono (by decide))) (C__law_tree_text := (CLawTreeText_2.mono (by decide)))  
  have CLawFactorText_3 := okLawFactorText (P := P) (w := w) (K := K) (mg := mg) (base := base) (T := T) (n := 3) (k := 12) FLawFactorText  (C__law_gap := (CLawGap.mono (by decide))) (C__law_tree_text := (CLawTreeText_3.mono (by decide))) (C__law_conditions_text := (CLawConditionsText.mono (by decide))) (C__law_draw := (CLawDraw.mono (by decide)))  (m_len := m_len)
  have CLawTermText_3 := okLawTermText (P := P) (w := w) (K := K) (mg := mg) (base := base) (T := T) (n := 3) (k := 13) FLawTermText  (C__law_factor_text := (CLawFactorText_3.mono (by decide))) (C__law_gap := (CLawGap.mono (by decide)))  (m_str := m_str)
  have CLawTreeText_4 := okLawTreeText (P := P) (w := w) (K := K) (mg := mg) (base := base) (T := T) (n := 3) (k := 14) FLawTreeText  (C__law_term_text := (CLawTermText_3.mono (by decide))) (C__law_gap := (CLawGap.mono (by decide))) (C__law_tree_text := (CLawTreeText_3.mono (by decide)))  
  have CLawFactorText_4 := okLawFactorText (P := P) (w := w) (K := K) (mg := mg) (base := base) (T := T) (n := 4) (k := 15) FLawFactorText  (C__law_gap := (CLawGap.mono (by decide))) (C__law_tree_text := (CLawTreeText_4.mono (by decide))) (C__law_conditions_text := (CLawConditionsText.mono (by decide))) (C__law_draw := (CLawDraw.mono (by decide)))  (m_len := m_len)
  have CLawTermText_4 := okLawTermText (P := P) (w := w) (K := K) (mg := mg) (base := base) (T := T) (n := 4) (k := 16) FLawTermText  (C__law_factor_text := (CLawFactorText_4.mono (by decide))) (C__law_gap := (CLawGap.mono (by decide)))  (m_str := m_str)
  have CLawTreeText_5 := okLawTreeText (P := P) (w := w) (K := K) (mg := mg) (base := base) (T := T) (n := 4) (k := 17) FLawTreeText  (C__law_term_text := (CLawTermText_4.mono (by decide))) (C__law_gap := (CLawGap.mono (by decide))) (C__law_tree_text := (CLawTreeText_4.mono (by decide)))  
  have CLawTreeText := CLawTreeText_5
  have CLawIsInteger := okLawIsInteger (P := P) (w := w) (K := K) (mg := mg) (base := base) (T := T) (k := 0) FLawIsInteger    (m_isinstance := m_isinstance) (m_bool := m_bool) (m_int := m_int)
  have CLawSame_0 : Callee P w K mg base T "_law_same" 1 ["_law_actual", "_law_due"] (spF (F_law_same 0)) fLawSame dLawSame := VL.Callee.none0 FLawSame
  have CLawSame_1 := okLawSame (P := P) (w := w) (K := K) (mg := mg) (base := base) (T := T) (n := 0) (k := 1) FLawSame  (C__law_is_integer := (CLawIsInteger.mono (by decide))) (C__law_same := (CLawSame_0.mono (by decide)))  (m_isinstance := m_isinstance) (m_str := m_str) (m_int := m_int) (m_bool := m_bool) (m_tuple := m_tuple) (m_len := m_len) (m_range := m_range) (m_all := m_all)
  have CLawSame_2 := okLawSame (P := P) (w := w) (K := K) (mg := mg) (base := base) (T := T) (n := 1) (k := 2) FLawSame  (C__law_is_integer := (CLawIsInteger.mono (by decide))) (C__law_same := (CLawSame_1.mono (by decide)))  (m_isinstance := m_isinstance) (m_str := m_str) (m_int := m_int) (m_bool := m_bool) (m_tuple := m_tuple) (m_len := m_len) (m_range := m_range) (m_all := m_all)
  have CLawSame_3 := okLawSame (P := P) (w := w) (K := K) (mg := mg) (base := base) (T := T) (n := 2) (k := 3) FLawSame  (C__law_is_integer := (CLawIsInteger.mono (by decide))) (C__law_same := (CLawSame_2.mono (by decide)))  (m_isinstance := m_isinstance) (m_str := m_str) (m_int := m_int) (m_bool := m_bool) (m_tuple := m_tuple) (m_len := m_len) (m_range := m_range) (m_all := m_all)
  have CLawSame_4 := okLawSame (P := P) (w := w) (K := K) (mg := mg) (base := base) (T := T) (n := 3) (k := 4) FLawSame  (C__law_is_integer := (CLawIsInteger.mono (by decide))) (C__law_same := (CLawSame_3.mono (by decide)))  (m_isinstance := m_isinstance) (m_str := m_str) (m_int := m_int) (m_bool := m_bool) (m_tuple := m_tuple) (m_len := m_len) (m_range := m_range) (m_all := m_all)
  have CLawSame_5 := okLawSame (P := P) (w := w) (K := K) (mg := mg) (base := base) (T := T) (n := 4) (k := 5) FLawSame  (C__law_is_integer := (CLawIsInteger.mono (by decide))) (C__law_same := (CLawSame_4.mono (by decide)))  (m_isinstance := m_isinstance) (m_str := m_str) (m_int := m_int) (m_bool := m_bool) (m_tuple := m_tuple) (m_len := m_len) (m_range := m_range) (m_all := m_all)
  have CLawSame_6 := okLawSame (P := P) (w := w) (K := K) (mg := mg) (base := base) (T := T) (n := 5) (k := 6) FLawSame  (C__law_is_integer := (CLawIsInteger.mono (by decide))) (C__law_same := (CLawSame_5.mono (by decide)))  (m_isinstance := m_isinstance) (m_str := m_str) (m_int := m_int) (m_bool := m_bool) (m_tuple := m_tuple) (m_len := m_len) (m_range := m_range) (m_all := m_all)
  have CLawSame_7 := okLawSame (P := P) (w := w) (K := K) (mg := mg) (base := base) (T := T) (n := 6) (k := 7) FLawSame  (C__law_is_integer := (CLawIsInteger.mono (by decide))) (C__law_same := (CLawSame_6.mono (by decide)))  (m_isinstance := m_isinstance) (m_str := m_str) (m_int := m_int) (m_bool := m_bool) (m_tuple := m_tuple) (m_len := m_len) (m_range := m_range) (m_all := m_all)
  have CLawSame_8 := okLawSame (P := P) (w := w) (K := K) (mg := mg) (base := base) (T := T) (n := 7) (k := 8) FLawSame  (C__law_is_integer := (CLawIsInteger.mono (by decide))) (C__law_same := (CLawSame_7.mono (by decide)))  (m_isinstance := m_isinstance) (m_str := m_str) (m_int := m_int) (m_bool := m_bool) (m_tuple := m_tuple) (m_len := m_len) (m_range := m_range) (m_all := m_all)
  have CLawSame_9 := okLawSame (P := P) (w := w) (K := K) (mg := mg) (base := base) (T := T) (n := 8) (k := 9) FLawSame  (C__law_is_integer := (CLawIsInteger.mono (by decide))) (C__law_same := (CLawSame_8.mono (by decide)))  (m_isinstance := m_isinstance) (m_str := m_str) (m_int := m_int) (m_bool := m_bool) (m_tuple := m_tuple) (m_len := m_len) (m_range := m_range) (m_all := m_all)
  have CLawSame_10 := okLawSame (P := P) (w := w) (K := K) (mg := mg) (base := base) (T := T) (n := 9) (k := 10) FLawSame  (C__law_is_integer := (CLawIsInteger.mono (by decide))) (C__law_same := (CLawSame_9.mono (by decide)))  (m_isinstance := m_isinstance) (m_str := m_str) (m_int := m_int) (m_bool := m_bool) (m_tuple := m_tuple) (m_len := m_len) (m_range := m_range) (m_all := m_all)
  have CLawSame := CLawSame_10
  have CRunEnd := okRunEnd (P := P) (w := w) (K := K) (mg := mg) (base := base) (T := T) (k := 0) FRunEnd    (m_len := m_len)
  have CTokens := okTokens (P := P) (w := w) (K := K) (mg := mg) (base := base) (T := T) (k := 1) FTokens  (C_run_end := (CRunEnd.mono (by decide)))  (m_tuple := m_tuple) (m_len := m_len) (m_max := m_max) (G_DIGITS := G_DIGITS) (G_LETTERS := G_LETTERS)
  have CReaderInit := okReaderInit (P := P) (w := w) (K := K) (mg := mg) (base := base) (T := T) (k := 2) FReaderInit  (C_tokens := (CTokens.mono (by decide))) (K_Reader := K_Reader) (A_Reader_at := A_Reader_at) (A_Reader_words := A_Reader_words) 
  have CReaderSeen := okReaderSeen (P := P) (w := w) (K := K) (mg := mg) (base := base) (T := T) (k := 0) FReaderSeen   (K_Reader := K_Reader) (A_Reader_at := A_Reader_at) (A_Reader_words := A_Reader_words) (m_len := m_len)
  have CReaderPasses := okReaderPasses (P := P) (w := w) (K := K) (mg := mg) (base := base) (T := T) (k := 1) FReaderPasses  (C_Reader_seen := (CReaderSeen.mono (by decide))) (K_Reader := K_Reader) (A_Reader_at := A_Reader_at) 
  have CIsNumber := okIsNumber (P := P) (w := w) (K := K) (mg := mg) (base := base) (T := T) (k := 0) FIsNumber (TB := TBIsNumber) (hPt := hPIsNumber)   (m_int := m_int) (m_all := m_all) (m_len := m_len) (G_MOST_NUMBER := G_MOST_NUMBER) (G_DIGITS := G_DIGITS)
  have CReaderRefuse := okReaderRefuse (P := P) (w := w) (K := K) (mg := mg) (base := base) (T := T) (k := 3) FReaderRefuse   (K_Reader := K_Reader) (A_Reader_at := A_Reader_at) (E_FaultyText := E_FaultyText) (hk2 := by decide) 
  have CReaderName := okReaderName (P := P) (w := w) (K := K) (mg := mg) (base := base) (T := T) (k := 4) FReaderName  (C_Reader_refuse := (CReaderRefuse.mono (by decide))) (C_Reader_seen := (CReaderSeen.mono (by decide))) (K_Reader := K_Reader) (A_Reader_at := A_Reader_at) (m_len := m_len) (G_LONGEST_WORD := G_LONGEST_WORD) (G_RESERVED := G_RESERVED) (G_LETTERS := G_LETTERS)
  have CReaderPath := okReaderPath (P := P) (w := w) (K := K) (mg := mg) (base := base) (T := T) (k := 5) FReaderPath  (C_Reader_passes := (CReaderPasses.mono (by decide))) (C_Reader_name := (CReaderName.mono (by decide)))  
  have CReaderCondition := okReaderCondition (P := P) (w := w) (K := K) (mg := mg) (base := base) (T := T) (k := 6) FReaderCondition  (C_Reader_passes := (CReaderPasses.mono (by decide))) (C_Reader_path := (CReaderPath.mono (by decide))) (C_Reader_refuse := (CReaderRefuse.mono (by decide))) (C_Reader_name := (CReaderName.mono (by decide)))  (m_tuple := m_tuple)
  have CReaderExpression_0 : MCallee P w K mg base T "Reader" "expression" 7 ["self", "level"] (spF (F_Reader_expression_2 0)) fReaderExpression dReaderExpression := VL.MCallee.none0 FReaderExpression
  have CReaderFactor_0 := okReaderFactor (P := P) (w := w) (K := K) (mg := mg) (base := base) (T := T) (n := 0) (k := 7) FReaderFactor  (C_Reader_passes := (CReaderPasses.mono (by decide))) (C_Reader_condition := (CReaderCondition.mono (by decide))) (C_Reader_refuse := (CReaderRefuse.mono (by decide))) (C_Reader_seen := (CReaderSeen.mono (by decide))) (C_Reader_expression := (CReaderExpression_0.mono (by decide))) (K_Reader := K_Reader) (A_Reader_at := A_Reader_at) (m_tuple := m_tuple) (G_MOST_NESTING := G_MOST_NESTING)
  have CReaderTerm_0 := okReaderTerm (P := P) (w := w) (K := K) (mg := mg) (base := base) (T := T) (n := 0) (k := 8) FReaderTerm  (C_Reader_factor := (CReaderFactor_0.mono (by decide))) (C_Reader_passes := (CReaderPasses.mono (by decide))) (C_Reader_refuse := (CReaderRefuse.mono (by decide))) (C_Reader_seen := (CReaderSeen.mono (by decide))) (C_is_number := (CIsNumber.mono (by decide))) (K_Reader := K_Reader) (A_Reader_at := A_Reader_at) (m_int := m_int)
  have CReaderExpression_1 := okReaderExpression (P := P) (w := w) (K := K) (mg := mg) (base := base) (T := T) (n := 0) (k := 9) FReaderExpression  (C_Reader_seen := (CReaderSeen.mono (by decide))) (C_Reader_term := (CReaderTerm_0.mono (by decide))) (C_Reader_passes := (CReaderPasses.mono (by decide))) (K_Reader := K_Reader) (A_Reader_at := A_Reader_at) 
  have CReaderFactor_1 := okReaderFactor (P := P) (w := w) (K := K) (mg := mg) (base := base) (T := T) (n := 1) (k := 10) FReaderFactor  (C_Reader_passes := (CReaderPasses.mono (by decide))) (C_Reader_condition := (CReaderCondition.mono (by decide))) (C_Reader_refuse := (CReaderRefuse.mono (by decide))) (C_Reader_seen := (CReaderSeen.mono (by decide))) (C_Reader_expression := (CReaderExpression_1.mono (by decide))) (K_Reader := K_Reader) (A_Reader_at := A_Reader_at) (m_tuple := m_tuple) (G_MOST_NESTING := G_MOST_NESTING)
  have CReaderTerm_1 := okReaderTerm (P := P) (w := w) (K := K) (mg := mg) (base := base) (T := T) (n := 1) (k := 11) FReaderTerm  (C_Reader_factor := (CReaderFactor_1.mono (by decide))) (C_Reader_passes := (CReaderPasses.mono (by decide))) (C_Reader_refuse := (CReaderRefuse.mono (by decide))) (C_Reader_seen := (CReaderSeen.mono (by decide))) (C_is_number := (CIsNumber.mono (by decide))) (K_Reader := K_Reader) (A_Reader_at := A_Reader_at) (m_int := m_int)
  have CReaderExpression_2 := okReaderExpression (P := P) (w := w) (K := K) (mg := mg) (base := base) (T := T) (n := 1) (k := 12) FReaderExpression  (C_Reader_seen := (CReaderSeen.mono (by decide))) (C_Reader_term := (CReaderTerm_1.mono (by decide))) (C_Reader_passes := (CReaderPasses.mono (by decide))) (K_Reader := K_Reader) (A_Reader_at := A_Reader_at) 
  have CReaderFactor_2 := okReaderFactor (P := P) (w := w) (K := K) (mg := mg) (base := base) (T := T) (n := 2) (k := 13) FReaderFactor  (C_Reader_passes := (CReaderPasses.mono (by decide))) (C_Reader_condition := (CReaderCondition.mono (by decide))) (C_Reader_refuse := (CReaderRefuse.mono (by decide))) (C_Reader_seen := (CReaderSeen.mono (by decide))) (C_Reader_expression := (CReaderExpression_2.mono (by decide))) (K_Reader := K_Reader) (A_Reader_at := A_Reader_at) (m_tuple := m_tuple) (G_MOST_NESTING := G_MOST_NESTING)
  have CReaderTerm_2 := okReaderTerm (P := P) (w := w) (K := K) (mg := mg) (base := base) (T := T) (n := 2) (k := 14) FReaderTerm  (C_Reader_factor := (CReaderFactor_2.mono (by decide))) (C_Reader_passes := (CReaderPasses.mono (by decide))) (C_Reader_refuse := (CReaderRefuse.mono (by decide))) (C_Reader_seen := (CReaderSeen.mono (by decide))) (C_is_number := (CIsNumber.mono (by decide))) (K_Reader := K_Reader) (A_Reader_at := A_Reader_at) (m_int := m_int)
  have CReaderExpression_3 := okReaderExpression (P := P) (w := w) (K := K) (mg := mg) (base := base) (T := T) (n := 2) (k := 15) FReaderExpression  (C_Reader_seen := (CReaderSeen.mono (by decide))) (C_Reader_term := (CReaderTerm_2.mono (by decide))) (C_Reader_passes := (CReaderPasses.mono (by decide))) (K_Reader := K_Reader) (A_Reader_at := A_Reader_at) 
  have CReaderFactor_3 := okReaderFactor (P := P) (w := w) (K := K) (mg := mg) (base := base) (T := T) (n := 3) (k := 16) FReaderFactor  (C_Reader_passes := (CReaderPasses.mono (by decide))) (C_Reader_condition := (CReaderCondition.mono (by decide))) (C_Reader_refuse := (CReaderRefuse.mono (by decide))) (C_Reader_seen := (CReaderSeen.mono (by decide))) (C_Reader_expression := (CReaderExpression_3.mono (by decide))) (K_Reader := K_Reader) (A_Reader_at := A_Reader_at) (m_tuple := m_tuple) (G_MOST_NESTING := G_MOST_NESTING)
  have CReaderTerm_3 := okReaderTerm (P := P) (w := w) (K := K) (mg := mg) (base := base) (T := T) (n := 3) (k := 17) FReaderTerm  (C_Reader_factor := (CReaderFactor_3.mono (by decide))) (C_Reader_passes := (CReaderPasses.mono (by decide))) (C_Reader_refuse := (CReaderRefuse.mono (by decide))) (C_Reader_seen := (CReaderSeen.mono (by decide))) (C_is_number := (CIsNumber.mono (by decide))) (K_Reader := K_Reader) (A_Reader_at := A_Reader_at) (m_int := m_int)
  have CReaderExpression_4 := okReaderExpression (P := P) (w := w) (K := K) (mg := mg) (base := base) (T := T) (n := 3) (k := 18) FReaderExpression  (C_Reader_seen := (CReaderSeen.mono (by decide))) (C_Reader_term := (CReaderTerm_3.mono (by decide))) (C_Reader_passes := (CReaderPasses.mono (by decide))) (K_Reader := K_Reader) (A_Reader_at := A_Reader_at) 
  have CReaderFactor_4 := okReaderFactor (P := P) (w := w) (K := K) (mg := mg) (base := base) (T := T) (n := 4) (k := 19) FReaderFactor  (C_Reader_passes := (CReaderPasses.mono (by decide))) (C_Reader_condition := (CReaderCondition.mono (by decide))) (C_Reader_refuse := (CReaderRefuse.mono (by decide))) (C_Reader_seen := (CReaderSeen.mono (by decide))) (C_Reader_expression := (CReaderExpression_4.mono (by decide))) (K_Reader := K_Reader) (A_Reader_at := A_Reader_at) (m_tuple := m_tuple) (G_MOST_NESTING := G_MOST_NESTING)
  have CReaderTerm_4 := okReaderTerm (P := P) (w := w) (K := K) (mg := mg) (base := base) (T := T) (n := 4) (k := 20) FReaderTerm  (C_Reader_factor := (CReaderFactor_4.mono (by decide))) (C_Reader_passes := (CReaderPasses.mono (by decide))) (C_Reader_refuse := (CReaderRefuse.mono (by decide))) (C_Reader_seen := (CReaderSeen.mono (by decide))) (C_is_number := (CIsNumber.mono (by decide))) (K_Reader := K_Reader) (A_Reader_at := A_Reader_at) (m_int := m_int)
  have CReaderExpression_5 := okReaderExpression (P := P) (w := w) (K := K) (mg := mg) (base := base) (T := T) (n := 4) (k := 21) FReaderExpression  (C_Reader_seen := (CReaderSeen.mono (by decide))) (C_Reader_term := (CReaderTerm_4.mono (by decide))) (C_Reader_passes := (CReaderPasses.mono (by decide))) (K_Reader := K_Reader) (A_Reader_at := A_Reader_at) 
  have CReaderFactor_5 := okReaderFactor (P := P) (w := w) (K := K) (mg := mg) (base := base) (T := T) (n := 5) (k := 22) FReaderFactor  (C_Reader_passes := (CReaderPasses.mono (by decide))) (C_Reader_condition := (CReaderCondition.mono (by decide))) (C_Reader_refuse := (CReaderRefuse.mono (by decide))) (C_Reader_seen := (CReaderSeen.mono (by decide))) (C_Reader_expression := (CReaderExpression_5.mono (by decide))) (K_Reader := K_Reader) (A_Reader_at := A_Reader_at) (m_tuple := m_tuple) (G_MOST_NESTING := G_MOST_NESTING)
  have CReaderTerm_5 := okReaderTerm (P := P) (w := w) (K := K) (mg := mg) (base := base) (T := T) (n := 5) (k := 23) FReaderTerm  (C_Reader_factor := (CReaderFactor_5.mono (by decide))) (C_Reader_passes := (CReaderPasses.mono (by decide))) (C_Reader_refuse := (CReaderRefuse.mono (by decide))) (C_Reader_seen := (CReaderSeen.mono (by decide))) (C_is_number := (CIsNumber.mono (by decide))) (K_Reader := K_Reader) (A_Reader_at := A_Reader_at) (m_int := m_int)
  have CReaderExpression_6 := okReaderExpression (P := P) (w := w) (K := K) (mg := mg) (base := base) (T := T) (n := 5) (k := 24) FReaderExpression  (C_Reader_seen := (CReaderSeen.mono (by decide))) (C_Reader_term := (CReaderTerm_5.mono (by decide))) (C_Reader_passes := (CReaderPasses.mono (by decide))) (K_Reader := K_Reader) (A_Reader_at := A_Reader_at) 
  have CReaderFactor_6 := okReaderFactor (P := P) (w := w) (K := K) (mg := mg) (base := base) (T := T) (n := 6) (k := 25) FReaderFactor  (C_Reader_passes := (CReaderPasses.mono (by decide))) (C_Reader_condition := (CReaderCondition.mono (by decide))) (C_Reader_refuse := (CReaderRefuse.mono (by decide))) (C_Reader_seen := (CReaderSeen.mono (by decide))) (C_Reader_expression := (CReaderExpression_6.mono (by decide))) (K_Reader := K_Reader) (A_Reader_at := A_Reader_at) (m_tuple := m_tuple) (G_MOST_NESTING := G_MOST_NESTING)
  have CReaderTerm_6 := okReaderTerm (P := P) (w := w) (K := K) (mg := mg) (base := base) (T := T) (n := 6) (k := 26) FReaderTerm  (C_Reader_factor := (CReaderFactor_6.mono (by decide))) (C_Reader_passes := (CReaderPasses.mono (by decide))) (C_Reader_refuse := (CReaderRefuse.mono (by decide))) (C_Reader_seen := (CReaderSeen.mono (by decide))) (C_is_number := (CIsNumber.mono (by decide))) (K_Reader := K_Reader) (A_Reader_at := A_Reader_at) (m_int := m_int)
  have CReaderExpression_7 := okReaderExpression (P := P) (w := w) (K := K) (mg := mg) (base := base) (T := T) (n := 6) (k := 27) FReaderExpression  (C_Reader_seen := (CReaderSeen.mono (by decide))) (C_Reader_term := (CReaderTerm_6.mono (by decide))) (C_Reader_passes := (CReaderPasses.mono (by decide))) (K_Reader := K_Reader) (A_Reader_at := A_Reader_at) 
  have CReaderFactor_7 := okReaderFactor (P := P) (w := w) (K := K) (mg := mg) (base := base) (T := T) (n := 7) (k := 28) FReaderFactor  (C_Reader_passes := (CReaderPasses.mono (by decide))) (C_Reader_condition := (CReaderCondition.mono (by decide))) (C_Reader_refuse := (CReaderRefuse.mono (by decide))) (C_Reader_seen := (CReaderSeen.mono (by decide))) (C_Reader_expression := (CReaderExpression_7.mono (by decide))) (K_Reader := K_Reader) (A_Reader_at := A_Reader_at) (m_tuple := m_tuple) (G_MOST_NESTING := G_MOST_NESTING)
  have CReaderTerm_7 := okReaderTerm (P := P) (w := w) (K := K) (mg := mg) (base := base) (T := T) (n := 7) (k := 29) FReaderTerm  (C_Reader_factor := (CReaderFactor_7.mono (by decide))) (C_Reader_passes := (CReaderPasses.mono (by decide))) (C_Reader_refuse := (CReaderRefuse.mono (by decide))) (C_Reader_seen := (CReaderSeen.mono (by decide))) (C_is_number := (CIsNumber.mono (by decide))) (K_Reader := K_Reader) (A_Reader_at := A_Reader_at) (m_int := m_int)
  have CReaderExpression_8 := okReaderExpression (P := P) (w := w) (K := K) (mg := mg) (base := base) (T := T) (n := 7) (k := 30) FReaderExpression  (C_Reader_seen := (CReaderSeen.mono (by decide))) (C_Reader_term := (CReaderTerm_7.mono (by decide))) (C_Reader_passes := (CReaderPasses.mono (by decide))) (K_Reader := K_Reader) (A_Reader_at := A_Reader_at) 
  have CReaderFactor_8 := okReaderFactor (P := P) (w := w) (K := K) (mg := mg) (base := base) (T := T) (n := 8) (k := 31) FReaderFactor  (C_Reader_passes := (CReaderPasses.mono (by decide))) (C_Reader_condition := (CReaderCondition.mono (by decide))) (C_Reader_refuse := (CReaderRefuse.mono (by decide))) (C_Reader_seen := (CReaderSeen.mono (by decide))) (C_Reader_expression := (CReaderExpression_8.mono (by decide))) (K_Reader := K_Reader) (A_Reader_at := A_Reader_at) (m_tuple := m_tuple) (G_MOST_NESTING := G_MOST_NESTING)
  have CReaderTerm_8 := okReaderTerm (P := P) (w := w) (K := K) (mg := mg) (base := base) (T := T) (n := 8) (k := 32) FReaderTerm  (C_Reader_factor := (CReaderFactor_8.mono (by decide))) (C_Reader_passes := (CReaderPasses.mono (by decide))) (C_Reader_refuse := (CReaderRefuse.mono (by decide))) (C_Reader_seen := (CReaderSeen.mono (by decide))) (C_is_number := (CIsNumber.mono (by decide))) (K_Reader := K_Reader) (A_Reader_at := A_Reader_at) (m_int := m_int)
  have CReaderExpression_9 := okReaderExpression (P := P) (w := w) (K := K) (mg := mg) (base := base) (T := T) (n := 8) (k := 33) FReaderExpression  (C_Reader_seen := (CReaderSeen.mono (by decide))) (C_Reader_term := (CReaderTerm_8.mono (by decide))) (C_Reader_passes := (CReaderPasses.mono (by decide))) (K_Reader := K_Reader) (A_Reader_at := A_Reader_at) 
  have CReaderFactor_9 := okReaderFactor (P := P) (w := w) (K := K) (mg := mg) (base := base) (T := T) (n := 9) (k := 34) FReaderFactor  (C_Reader_passes := (CReaderPasses.mono (by decide))) (C_Reader_condition := (CReaderCondition.mono (by decide))) (C_Reader_refuse := (CReaderRefuse.mono (by decide))) (C_Reader_seen := (CReaderSeen.mono (by decide))) (C_Reader_expression := (CReaderExpression_9.mono (by decide))) (K_Reader := K_Reader) (A_Reader_at := A_Reader_at) (m_tuple := m_tuple) (G_MOST_NESTING := G_MOST_NESTING)
  have CReaderTerm_9 := okReaderTerm (P := P) (w := w) (K := K) (mg := mg) (base := base) (T := T) (n := 9) (k := 35) FReaderTerm  (C_Reader_factor := (CReaderFactor_9.mono (by decide))) (C_Reader_passes := (CReaderPasses.mono (by decide))) (C_Reader_refuse := (CReaderRefuse.mono (by decide))) (C_Reader_seen := (CReaderSeen.mono (by decide))) (C_is_number := (CIsNumber.mono (by decide))) (K_Reader := K_Reader) (A_Reader_at := A_Reader_at) (m_int := m_int)
  have CReaderExpression_10 := okReaderExpression (P := P) (w := w) (K := K) (mg := mg) (base := base) (T := T) (n := 9) (k := 36) FReaderExpression  (C_Reader_seen := (CReaderSeen.mono (by decide))) (C_Reader_term := (CReaderTerm_9.mono (by decide))) (C_Reader_passes := (CReaderPasses.mono (by decide))) (K_Reader := K_Reader) (A_Reader_at := A_Reader_at) 
  have CReaderFactor_10 := okReaderFactor (P := P) (w := w) (K := K) (mg := mg) (base := base) (T := T) (n := 10) (k := 37) FReaderFactor  (C_Reader_passes := (CReaderPasses.mono (by decide))) (C_Reader_condition := (CReaderCondition.mono (by decide))) (C_Reader_refuse := (CReaderRefuse.mono (by decide))) (C_Reader_seen := (CReaderSeen.mono (by decide))) (C_Reader_expression := (CReaderExpression_10.mono (by decide))) (K_Reader := K_Reader) (A_Reader_at := A_Reader_at) (m_tuple := m_tuple) (G_MOST_NESTING := G_MOST_NESTING)
  have CReaderTerm_10 := okReaderTerm (P := P) (w := w) (K := K) (mg := mg) (base := base) (T := T) (n := 10) (k := 38) FReaderTerm  (C_Reader_factor := (CReaderFactor_10.mono (by decide))) (C_Reader_passes := (CReaderPasses.mono (by decide))) (C_Reader_refuse := (CReaderRefuse.mono (by decide))) (C_Reader_seen := (CReaderSeen.mono (by decide))) (C_is_number := (CIsNumber.mono (by decide))) (K_Reader := K_Reader) (A_Reader_at := A_Reader_at) (m_int := m_int)
  have CReaderExpression_11 := okReaderExpression (P := P) (w := w) (K := K) (mg := mg) (base := base) (T := T) (n := 10) (k := 39) FReaderExpression  (C_Reader_seen := (CReaderSeen.mono (by decide))) (C_Reader_term := (CReaderTerm_10.mono (by decide))) (C_Reader_passes := (CReaderPasses.mono (by decide))) (K_Reader := K_Reader) (A_Reader_at := A_Reader_at) 
  have CReaderFactor_11 := okReaderFactor (P := P) (w := w) (K := K) (mg := mg) (base := base) (T := T) (n := 11) (k := 40) FReaderFactor  (C_Reader_passes := (CReaderPasses.mono (by decide))) (C_Reader_condition := (CReaderCondition.mono (by decide))) (C_Reader_refuse := (CReaderRefuse.mono (by decide))) (C_Reader_seen := (CReaderSeen.mono (by decide))) (C_Reader_expression := (CReaderExpression_11.mono (by decide))) (K_Reader := K_Reader) (A_Reader_at := A_Reader_at) (m_tuple := m_tuple) (G_MOST_NESTING := G_MOST_NESTING)
  have CReaderTerm_11 := okReaderTerm (P := P) (w := w) (K := K) (mg := mg) (base := base) (T := T) (n := 11) (k := 41) FReaderTerm  (C_Reader_factor := (CReaderFactor_11.mono (by decide))) (C_Reader_passes := (CReaderPasses.mono (by decide))) (C_Reader_refuse := (CReaderRefuse.mono (by decide))) (C_Reader_seen := (CReaderSeen.mono (by decide))) (C_is_number := (CIsNumber.mono (by decide))) (K_Reader := K_Reader) (A_Reader_at := A_Reader_at) (m_int := m_int)
  have CReaderExpression_12 := okReaderExpression (P := P) (w := w) (K := K) (mg := mg) (base := base) (T := T) (n := 11) (k := 42) FReaderExpression  (C_Reader_seen := (CReaderSeen.mono (by decide))) (C_Reader_term := (CReaderTerm_11.mono (by decide))) (C_Reader_passes := (CReaderPasses.mono (by decide))) (K_Reader := K_Reader) (A_Reader_at := A_Reader_at) 
  have CReaderExpression := CReaderExpression_12
  have CReadExpression := okReadExpression (P := P) (w := w) (K := K) (mg := mg) (base := base) (T := T) (k := 43) FReadExpression  (C_Reader_seen := (CReaderSeen.mono (by decide))) (C_Reader_refuse := (CReaderRefuse.mono (by decide))) (C_Reader_expression := (CReaderExpression.mono (by decide))) (hk_Reader___init__ := by decide) (C_Reader___init__ := CReaderInit)  
  have CLaw := okLaw (P := P) (w := w) (K := K) (mg := mg) (base := base) (T := T) (k := 44) FLaw  (C__law_same := (CLawSame.mono (by decide))) (C_read_expression := (CReadExpression.mono (by decide))) (C__law_tree_text := (CLawTreeText.mono (by decide))) (C__law_box := (CLawBox.mono (by decide))) (C__law_tree := (CLawTree.mono (by decide))) (C__law_wide := (CLawWide.mono (by decide)))  (m_range := m_range) (m_len := m_len)
  exact CLaw.ok
end
set_option maxHeartbeats 0 in
theorem all_mk {l : PySem.W.OpenLaw} {w : World} {K : PySem.W.Frag} {h : Heap} {mg : Str → Option Value} {fa : Addr} (X : K.In h) (G : h.Ns mainGlobals mg) (hfa : mg "law" = some (.ref fa)) (own : ∀ y ∈ [("is_number" : Str)], ∀ fb : Addr, mg y = some (.ref fb) → LamX.OwnTab K fb h)
    {aReader : Addr}
    (xReader : PySem.W.nsIn K mainGlobals "Reader" = some (some (.ref aReader)))
    {aFaultyText : Addr}
    (xFaultyText : PySem.W.nsIn K mainGlobals "FaultyText" = some (some (.ref aFaultyText)))
    (kc1Reader : PySem.W.plainGet K aReader Str.empty = true)
    (kc2Reader : PySem.W.hasDictIn K aReader = true)
    (kc3Reader : PySem.W.plainOver K aReader = true)
    (kc4Reader : PySem.W.findIn K (.ref aReader) "__setattr__" = some (some (.builtin "object.__setattr__")))
    (na_Reader_at : PySem.W.findIn K (.ref aReader) "at" = some none)
    (na_Reader_words : PySem.W.findIn K (.ref aReader) "words" = some none)
    (zsuper : PySem.W.nsIn K mainGlobals "super" = some none)
    (zany : PySem.W.nsIn K cStatics "thirdparty.any" = some none)
    (ztop : (l.prog.main.scope.names.lookup ("super" : Str)).isSome = false)
    (ex0FaultyText : PySem.W.excInitIn K aFaultyText VL.veL "ValueError.__new__" = true)
    (ex1FaultyText : PySem.W.keepIn K (.ref aFaultyText) = true)
    (ex2FaultyText : PySem.W.subIn K (.ref aFaultyText) (.type "BaseException") = some true)
    (ex3FaultyText : PySem.W.typeIn K (.ref aFaultyText) = some (.type "type"))
    (ex4FaultyText : PySem.W.findIn K (.ref aFaultyText) "__getattribute__" = some (some (.builtin "BaseException.__getattribute__")))
    (ex5FaultyText : PySem.W.findIn K (.ref aFaultyText) "__getattr__" = some none)
    (ex6FaultyText : PySem.W.hasDictIn K aFaultyText = true)
    (ex7FaultyText : PySem.W.findIn K (.ref aFaultyText) "__class__" = some (some (.builtin "object.__class__")))
    (ex8FaultyText : PySem.W.specialIn K (.builtin "object.__class__") "__get__" = some (some (.builtin "getset_descriptor.__get__")))
    (ex9FaultyText : PySem.W.takesIn K (.builtin "object.__class__") = some true)
    (exvFaultyText : PySem.W.subIn K (.ref aFaultyText) (.type "ValueError") = some true)
    (exaFaultyText : PySem.W.mroIn K aFaultyText (.type "object") = some true)
    (excFaultyText : PySem.W.isClsIn K aFaultyText = true)
    (exN0FaultyText : PySem.W.findIn K (.ref aFaultyText) "name" = some none)
    (exN1FaultyText : PySem.W.findIn K (.ref aFaultyText) "at" = some none)
    (exN2FaultyText : PySem.W.findIn K (.ref aFaultyText) "count" = some none)
    {odFaultyTextInit anFaultyTextInit : Option Addr} {slFaultyTextInit : Array (Option Value)} {ocFaultyTextInit kVFaultyTextInit dcFaultyTextInit pmFaultyTextInit ctFaultyTextInit : Value} {aFaultyTextInit ccFaultyTextInit cAFaultyTextInit : Addr} {eFaultyTextInit e2FaultyTextInit : Value} {ddFaultyTextInit d2FaultyTextInit : Option Addr} {vsFaultyTextInit : Array Value} {scFaultyTextInit s2FaultyTextInit : Array (Option Value)} {flFaultyTextInit : Str} {tfFaultyTextInit : PySem.Tok}
    (exsFaultyText : PySem.W.findIn K (.ref aFaultyText) "__setattr__" = some (some (.builtin "object.__setattr__")))
    (exSFaultyText : PySem.W.ks_superIn K aFaultyText aFaultyText "__init__" = some (some (.builtin "ValueError.__init__")))
    (exMFaultyText : PySem.W.mroIn K aFaultyText (.ref aFaultyText) = some true)
    (me1FaultyTextInit : PySem.W.findIn K (.ref aFaultyText) "__init__" = some (some (.ref aFaultyTextInit)))
    (tiFaultyTextInit : PySem.W.typeIn K (.ref aFaultyTextInit) = some (.type "function"))
    (lFaultyTextInit : K.lookup aFaultyTextInit = some ⟨ocFaultyTextInit, odFaultyTextInit, .func (PySem.W.fnX "__init__" "FaultyText.__init__" (defArgs sFaultyTextInit) (defBody sFaultyTextInit) (defScope sFaultyTextInit) [("__class__", ccFaultyTextInit)] .none kVFaultyTextInit dcFaultyTextInit pmFaultyTextInit anFaultyTextInit (.ref cAFaultyTextInit) ctFaultyTextInit), slFaultyTextInit⟩)
    (clFaultyTextInit : K.lookup ccFaultyTextInit = some ⟨e2FaultyTextInit, d2FaultyTextInit, .cell (some (.ref aFaultyText)), s2FaultyTextInit⟩)
    (t1FaultyTextInit : K.lookup cAFaultyTextInit = some ⟨eFaultyTextInit, ddFaultyTextInit, .fields vsFaultyTextInit, scFaultyTextInit⟩)
    (t2FaultyTextInit : vsFaultyTextInit[2]? = some (.str flFaultyTextInit tfFaultyTextInit))
    (tflFaultyTextInit : ((l.prog.main.file : Str) == flFaultyTextInit) = true)
    (crFaultyTextInit : PySem.W.codeIn K (.ref cAFaultyTextInit) "FaultyText.__init__" = true)
    {odLawDigits anLawDigits : Option Addr} {slLawDigits : Array (Option Value)} {ocLawDigits kVLawDigits dcLawDigits pmLawDigits cdLawDigits ctLawDigits : Value} {aLawDigits : Addr}
    (xLawDigits : PySem.W.nsIn K mainGlobals "_law_digits" = some (some (.ref aLawDigits))) (lLawDigits : K.lookup aLawDigits = some ⟨ocLawDigits, odLawDigits, .func (PySem.W.fnOf "_law_digits" "_law_digits" (defArgs sLawDigits) (defBody sLawDigits) (defScope sLawDigits) .none kVLawDigits dcLawDigits pmLawDigits anLawDigits cdLawDigits ctLawDigits), slLawDigits⟩) (cLawDigits : PySem.W.codeIn K cdLawDigits "_law_digits" = true) (kLawDigits : PySem.W.keepIn K (.ref aLawDigits) = true)
    {odLawCell anLawCell : Option Addr} {slLawCell : Array (Option Value)} {ocLawCell kVLawCell dcLawCell pmLawCell cdLawCell ctLawCell : Value} {aLawCell : Addr}
    (xLawCell : PySem.W.nsIn K mainGlobals "_law_cell" = some (some (.ref aLawCell))) (lLawCell : K.lookup aLawCell = some ⟨ocLawCell, odLawCell, .func (PySem.W.fnOf "_law_cell" "_law_cell" (defArgs sLawCell) (defBody sLawCell) (defScope sLawCell) .none kVLawCell dcLawCell pmLawCell anLawCell cdLawCell ctLawCell), slLawCell⟩) (cLawCell : PySem.W.codeIn K cdLawCell "_law_cell" = true) (kLawCell : PySem.W.keepIn K (.ref aLawCell) = true)
    {odLawBox anLawBox : Option Addr} {slLawBox : Array (Option Value)} {ocLawBox kVLawBox dcLawBox pmLawBox cdLawBox ctLawBox : Value} {aLawBox : Addr}
    (xLawBox : PySem.W.nsIn K mainGlobals "_law_box" = some (some (.ref aLawBox))) (lLawBox : K.lookup aLawBox = some ⟨ocLawBox, odLawBox, .func (PySem.W.fnOf "_law_box" "_law_box" (defArgs sLawBox) (defBody sLawBox) (defScope sLawBox) .none kVLawBox dcLawBox pmLawBox anLawBox cdLawBox ctLawBox), slLawBox⟩) (cLawBox : PySem.W.codeIn K cdLawBox "_law_box" = true) (kLawBox : PySem.W.keepIn K (.ref aLawBox) = true)
    {odLawDraw anLawDraw : Option Addr} {slLawDraw : Array (Option Value)} {ocLawDraw kVLawDraw dcLawDraw pmLawDraw cdLawDraw ctLawDraw : Value} {aLawDraw : Addr}
    (xLawDraw : PySem.W.nsIn K mainGlobals "_law_draw" = some (some (.ref aLawDraw))) (lLawDraw : K.lookup aLawDraw = some ⟨ocLawDraw, odLawDraw, .func (PySem.W.fnOf "_law_draw" "_law_draw" (defArgs sLawDraw) (defBody sLawDraw) (defScope sLawDraw) .none kVLawDraw dcLawDraw pmLawDraw anLawDraw cdLawDraw ctLawDraw), slLawDraw⟩) (cLawDraw : PySem.W.codeIn K cdLawDraw "_law_draw" = true) (kLawDraw : PySem.W.keepIn K (.ref aLawDraw) = true)
    {odLawWord anLawWord : Option Addr} {slLawWord : Array (Option Value)} {ocLawWord kVLawWord dcLawWord pmLawWord cdLawWord ctLawWord : Value} {aLawWord : Addr}
    (xLawWord : PySem.W.nsIn K mainGlobals "_law_word" = some (some (.ref aLawWord))) (lLawWord : K.lookup aLawWord = some ⟨ocLawWord, odLawWord, .func (PySem.W.fnOf "_law_word" "_law_word" (defArgs sLawWord) (defBody sLawWord) (defScope sLawWord) .none kVLawWord dcLawWord pmLawWord anLawWord cdLawWord ctLawWord), slLawWord⟩) (cLawWord : PySem.W.codeIn K cdLawWord "_law_word" = true) (kLawWord : PySem.W.keepIn K (.ref aLawWord) = true)
    {odLawPlainLeaves anLawPlainLeaves : Option Addr} {slLawPlainLeaves : Array (Option Value)} {ocLawPlainLeaves kVLawPlainLeaves dcLawPlainLeaves pmLawPlainLeaves cdLawPlainLeaves ctLawPlainLeaves : Value} {aLawPlainLeaves : Addr}
    (xLawPlainLeaves : PySem.W.nsIn K mainGlobals "_law_plain_leaves" = some (some (.ref aLawPlainLeaves))) (lLawPlainLeaves : K.lookup aLawPlainLeaves = some ⟨ocLawPlainLeaves, odLawPlainLeaves, .func (PySem.W.fnOf "_law_plain_leaves" "_law_plain_leaves" (defArgs sLawPlainLeaves) (defBody sLawPlainLeaves) (defScope sLawPlainLeaves) .none kVLawPlainLeaves dcLawPlainLeaves pmLawPlainLeaves anLawPlainLeaves cdLawPlainLeaves ctLawPlainLeaves), slLawPlainLeaves⟩) (cLawPlainLeaves : PySem.W.codeIn K cdLawPlainLeaves "_law_plain_leaves" = true) (kLawPlainLeaves : PySem.W.keepIn K (.ref aLawPlainLeaves) = true)
    {odLawLeaves anLawLeaves : Option Addr} {slLawLeaves : Array (Option Value)} {ocLawLeaves kVLawLeaves dcLawLeaves pmLawLeaves cdLawLeaves ctLawLeaves : Value} {aLawLeaves : Addr}
    (xLawLeaves : PySem.W.nsIn K mainGlobals "_law_leaves" = some (some (.ref aLawLeaves))) (lLawLeaves : K.lookup aLawLeaves = some ⟨ocLawLeaves, odLawLeaves, .func (PySem.W.fnOf "_law_leaves" "_law_leaves" (defArgs sLawLeaves) (defBody sLawLeaves) (defScope sLawLeaves) .none kVLawLeaves dcLawLeaves pmLawLeaves anLawLeaves cdLawLeaves ctLawLeaves), slLawLeaves⟩) (cLawLeaves : PySem.W.codeIn K cdLawLeaves "_law_leaves" = true) (kLawLeaves : PySem.W.keepIn K (.ref aLawLeaves) = true)
    {odLawWide anLawWide : Option Addr} {slLawWide : Array (Option Value)} {ocLawWide kVLawWide dcLawWide pmLawWide cdLawWide ctLawWide : Value} {aLawWide : Addr}
    (xLawWide : PySem.W.nsIn K mainGlobals "_law_wide" = some (some (.ref aLawWide))) (lLawWide : K.lookup aLawWide = some ⟨ocLawWide, odLawWide, .func (PySem.W.fnOf "_law_wide" "_law_wide" (defArgs sLawWide) (defBody sLawWide) (defScope sLawWide) .none kVLawWide dcLawWide pmLawWide anLawWide cdLawWide ctLawWide), slLawWide⟩) (cLawWide : PySem.W.codeIn K cdLawWide "_law_wide" = true) (kLawWide : PySem.W.keepIn K (.ref aLawWide) = true)
    {odLawPrefix anLawPrefix : Option Addr} {slLawPrefix : Array (Option Value)} {ocLawPrefix kVLawPrefix dcLawPrefix pmLawPrefix cdLawPrefix ctLawPrefix : Value} {aLawPrefix : Addr}
    (xLawPrefix : PySem.W.nsIn K mainGlobals "_law_prefix" = some (some (.ref aLawPrefix))) (lLawPrefix : K.lookup aLawPrefix = some ⟨ocLawPrefix, odLawPrefix, .func (PySem.W.fnOf "_law_prefix" "_law_prefix" (defArgs sLawPrefix) (defBody sLawPrefix) (defScope sLawPrefix) .none kVLawPrefix dcLawPrefix pmLawPrefix anLawPrefix cdLawPrefix ctLawPrefix), slLawPrefix⟩) (cLawPrefix : PySem.W.codeIn K cdLawPrefix "_law_prefix" = true) (kLawPrefix : PySem.W.keepIn K (.ref aLawPrefix) = true)
    {odLawLevel anLawLevel : Option Addr} {slLawLevel : Array (Option Value)} {ocLawLevel kVLawLevel dcLawLevel pmLawLevel cdLawLevel ctLawLevel : Value} {aLawLevel : Addr}
    (xLawLevel : PySem.W.nsIn K mainGlobals "_law_level" = some (some (.ref aLawLevel))) (lLawLevel : K.lookup aLawLevel = some ⟨ocLawLevel, odLawLevel, .func (PySem.W.fnOf "_law_level" "_law_level" (defArgs sLawLevel) (defBody sLawLevel) (defScope sLawLevel) .none kVLawLevel dcLawLevel pmLawLevel anLawLevel cdLawLevel ctLawLevel), slLawLevel⟩) (cLawLevel : PySem.W.codeIn K cdLawLevel "_law_level" = true) (kLawLevel : PySem.W.keepIn K (.ref aLawLevel) = true)
    {odLawACondition anLawACondition : Option Addr} {slLawACondition : Array (Option Value)} {ocLawACondition kVLawACondition dcLawACondition pmLawACondition cdLawACondition ctLawACondition : Value} {aLawACondition : Addr}
    (xLawACondition : PySem.W.nsIn K mainGlobals "_law_a_condition" = some (some (.ref aLawACondition))) (lLawACondition : K.lookup aLawACondition = some ⟨ocLawACondition, odLawACondition, .func (PySem.W.fnOf "_law_a_condition" "_law_a_condition" (defArgs sLawACondition) (defBody sLawACondition) (defScope sLawACondition) .none kVLawACondition dcLawACondition pmLawACondition anLawACondition cdLawACondition ctLawACondition), slLawACondition⟩) (cLawACondition : PySem.W.codeIn K cdLawACondition "_law_a_condition" = true) (kLawACondition : PySem.W.keepIn K (.ref aLawACondition) = true)
    {odLawTree anLawTree : Option Addr} {slLawTree : Array (Option Value)} {ocLawTree kVLawTree dcLawTree pmLawTree cdLawTree ctLawTree : Value} {aLawTree : Addr}
    (xLawTree : PySem.W.nsIn K mainGlobals "_law_tree" = some (some (.ref aLawTree))) (lLawTree : K.lookup aLawTree = some ⟨ocLawTree, odLawTree, .func (PySem.W.fnOf "_law_tree" "_law_tree" (defArgs sLawTree) (defBody sLawTree) (defScope sLawTree) .none kVLawTree dcLawTree pmLawTree anLawTree cdLawTree ctLawTree), slLawTree⟩) (cLawTree : PySem.W.codeIn K cdLawTree "_law_tree" = true) (kLawTree : PySem.W.keepIn K (.ref aLawTree) = true)
    {odLawGap anLawGap : Option Addr} {slLawGap : Array (Option Value)} {ocLawGap kVLawGap dcLawGap pmLawGap cdLawGap ctLawGap : Value} {aLawGap : Addr}
    (xLawGap : PySem.W.nsIn K mainGlobals "_law_gap" = some (some (.ref aLawGap))) (lLawGap : K.lookup aLawGap = some ⟨ocLawGap, odLawGap, .func (PySem.W.fnOf "_law_gap" "_law_gap" (defArgs sLawGap) (defBody sLawGap) (defScope sLawGap) .none kVLawGap dcLawGap pmLawGap anLawGap cdLawGap ctLawGap), slLawGap⟩) (cLawGap : PySem.W.codeIn K cdLawGap "_law_gap" = true) (kLawGap : PySem.W.keepIn K (.ref aLawGap) = true)
    {odLawConditionsText anLawConditionsText : Option Addr} {slLawConditionsText : Array (Option Value)} {ocLawConditionsText kVLawConditionsText dcLawConditionsText pmLawConditionsText cdLawConditionsText ctLawConditionsText : Value} {aLawConditionsText : Addr}
    (xLawConditionsText : PySem.W.nsIn K mainGlobals "_law_conditions_text" = some (some (.ref aLawConditionsText))) (lLawConditionsText : K.lookup aLawConditionsText = some ⟨ocLawConditionsText, odLawConditionsText, .func (PySem.W.fnOf "_law_conditions_text" "_law_conditions_text" (defArgs sLawConditionsText) (defBody sLawConditionsText) (defScope sLawConditionsText) .none kVLawConditionsText dcLawConditionsText pmLawConditionsText anLawConditionsText cdLawConditionsText ctLawConditionsText), slLawConditionsText⟩) (cLawConditionsText : PySem.W.codeIn K cdLawConditionsText "_law_conditions_text" = true) (kLawConditionsText : PySem.W.keepIn K (.ref aLawConditionsText) = true)
    {odLawFactorText anLawFactorText : Option Addr} {slLawFactorText : Array (Option Value)} {ocLawFactorText kVLawFactorText dcLawFactorText pmLawFactorText cdLawFactorText ctLawFactorText : Value} {aLawFactorText : Addr}
    (xLawFactorText : PySem.W.nsIn K mainGlobals "_law_factor_text" = some (some (.ref aLawFactorText))) (lLawFactorText : K.lookup aLawFactorText = some ⟨ocLawFactorText, odLawFactorText, .func (PySem.W.fnOf "_law_factor_text" "_law_factor_text" (defArgs sLawFactorText) (defBody sLawFactorText) (defScope sLawFactorText) .none kVLawFactorText dcLawFactorText pmLawFactorText anLawFactorText cdLawFactorText ctLawFactorText), slLawFactorText⟩) (cLawFactorText : PySem.W.codeIn K cdLawFactorText "_law_factor_text" = true) (kLawFactorText : PySem.W.keepIn K (.ref aLawFactorText) = true)
    {odLawTermText anLawTermText : Option Addr} {slLawTermText : Array (Option Value)} {ocLawTermText kVLawTermText dcLawTermText pmLawTermText cdLawTermText ctLawTermText : Value} {aLawTermText : Addr}
    (xLawTermText : PySem.W.nsIn K mainGlobals "_law_term_text" = some (some (.ref aLawTermText))) (lLawTermText : K.lookup aLawTermText = some ⟨ocLawTermText, odLawTermText, .func (PySem.W.fnOf "_law_term_text" "_law_term_text" (defArgs sLawTermText) (defBody sLawTermText) (defScope sLawTermText) .none kVLawTermText dcLawTermText pmLawTermText anLawTermText cdLawTermText ctLawTermText), slLawTermText⟩) (cLawTermText : PySem.W.codeIn K cdLawTermText "_law_term_text" = true) (kLawTermText : PySem.W.keepIn K (.ref aLawTermText) = true)
    {odLawTreeText anLawTreeText : Option Addr} {slLawTreeText : Array (Option Value)} {ocLawTreeText kVLawTreeText dcLawTreeText pmLawTreeText cdLawTreeText ctLawTreeText : Value} {aLawTreeText : Addr}
    (xLawTreeText : PySem.W.nsIn K mainGlobals "_law_tree_text" = some (some (.ref aLawTreeText))) (lLawTreeText : K.lookup aLawTreeText = some ⟨ocLawTreeText, odLawTreeText, .func (PySem.W.fnOf "_law_tree_text" "_law_tree_text" (defArgs sLawTreeText) (defBody sLawTreeText) (defScope sLawTreeText) .none kVLawTreeText dcLawTreeText pmLawTreeText anLawTreeText cdLawTreeText ctLawTreeText), slLawTreeText⟩) (cLawTreeText : PySem.W.codeIn K cdLawTreeText "_law_tree_text" = true) (kLawTreeText : PySem.W.keepIn K (.ref aLawTreeText) = true)
    {odLawIsInteger anLawIsInteger : Option Addr} {slLawIsInteger : Array (Option Value)} {ocLawIsInteger kVLawIsInteger dcLawIsInteger pmLawIsInteger cdLawIsInteger ctLawIsInteger : Value} {aLawIsInteger : Addr}
    (xLawIsInteger : PySem.W.nsIn K mainGlobals "_law_is_integer" = some (some (.ref aLawIsInteger))) (lLawIsInteger : K.lookup aLawIsInteger = some ⟨ocLawIsInteger, odLawIsInteger, .func (PySem.W.fnOf "_law_is_integer" "_law_is_integer" (defArgs sLawIsInteger) (defBody sLawIsInteger) (defScope sLawIsInteger) .none kVLawIsInteger dcLawIsInteger pmLawIsInteger anLawIsInteger cdLawIsInteger ctLawIsInteger), slLawIsInteger⟩) (cLawIsInteger : PySem.W.codeIn K cdLawIsInteger "_law_is_integer" = true) (kLawIsInteger : PySem.W.keepIn K (.ref aLawIsInteger) = true)
    {odLawSame anLawSame : Option Addr} {slLawSame : Array (Option Value)} {ocLawSame kVLawSame dcLawSame pmLawSame cdLawSame ctLawSame : Value} {aLawSame : Addr}
    (xLawSame : PySem.W.nsIn K mainGlobals "_law_same" = some (some (.ref aLawSame))) (lLawSame : K.lookup aLawSame = some ⟨ocLawSame, odLawSame, .func (PySem.W.fnOf "_law_same" "_law_same" (defArgs sLawSame) (defBody sLawSame) (defScope sLawSame) .none kVLawSame dcLawSame pmLawSame anLawSame cdLawSame ctLawSame), slLawSame⟩) (cLawSame : PySem.W.codeIn K cdLawSame "_law_same" = true) (kLawSame : PySem.W.keepIn K (.ref aLawSame) = true)
    {odRunEnd anRunEnd : Option Addr} {slRunEnd : Array (Option Value)} {ocRunEnd kVRunEnd dcRunEnd pmRunEnd cdRunEnd ctRunEnd : Value} {aRunEnd : Addr}
    (xRunEnd : PySem.W.nsIn K mainGlobals "run_end" = some (some (.ref aRunEnd))) (lRunEnd : K.lookup aRunEnd = some ⟨ocRunEnd, odRunEnd, .func (PySem.W.fnOf "run_end" "run_end" (defArgs sRunEnd) (defBody sRunEnd) (defScope sRunEnd) .none kVRunEnd dcRunEnd pmRunEnd anRunEnd cdRunEnd ctRunEnd), slRunEnd⟩) (cRunEnd : PySem.W.codeIn K cdRunEnd "run_end" = true) (kRunEnd : PySem.W.keepIn K (.ref aRunEnd) = true)
    {odTokens anTokens : Option Addr} {slTokens : Array (Option Value)} {ocTokens kVTokens dcTokens pmTokens cdTokens ctTokens : Value} {aTokens : Addr}
    (xTokens : PySem.W.nsIn K mainGlobals "tokens" = some (some (.ref aTokens))) (lTokens : K.lookup aTokens = some ⟨ocTokens, odTokens, .func (PySem.W.fnOf "tokens" "tokens" (defArgs sTokens) (defBody sTokens) (defScope sTokens) .none kVTokens dcTokens pmTokens anTokens cdTokens ctTokens), slTokens⟩) (cTokens : PySem.W.codeIn K cdTokens "tokens" = true) (kTokens : PySem.W.keepIn K (.ref aTokens) = true)
    {odReaderInit anReaderInit : Option Addr} {slReaderInit : Array (Option Value)} {ocReaderInit kVReaderInit dcReaderInit pmReaderInit cdReaderInit ctReaderInit : Value} {aReaderInit : Addr}
    (me1ReaderInit : PySem.W.findIn K (.ref aReader) "__init__" = some (some (.ref aReaderInit)))
    (me2ReaderInit : PySem.W.isFn K (.ref aReaderInit) = true)
    (lReaderInit : K.lookup aReaderInit = some ⟨ocReaderInit, odReaderInit, .func (PySem.W.fnOf "__init__" "Reader.__init__" (defArgs sReaderInit) (defBody sReaderInit) (defScope sReaderInit) .none kVReaderInit dcReaderInit pmReaderInit anReaderInit cdReaderInit ctReaderInit), slReaderInit⟩) (cReaderInit : PySem.W.codeIn K cdReaderInit "Reader.__init__" = true) (kReaderInit : PySem.W.keepIn K (.ref aReaderInit) = true)
    (mk1ReaderInit : PySem.W.makesIn K aReader = true)
    (mk4ReaderInit : PySem.W.keepIn K (.ref aReader) = true)
    {odReaderSeen anReaderSeen : Option Addr} {slReaderSeen : Array (Option Value)} {ocReaderSeen kVReaderSeen dcReaderSeen pmReaderSeen cdReaderSeen ctReaderSeen : Value} {aReaderSeen : Addr}
    (me1ReaderSeen : PySem.W.findIn K (.ref aReader) "seen" = some (some (.ref aReaderSeen)))
    (me2ReaderSeen : PySem.W.isFn K (.ref aReaderSeen) = true)
    (lReaderSeen : K.lookup aReaderSeen = some ⟨ocReaderSeen, odReaderSeen, .func (PySem.W.fnOf "seen" "Reader.seen" (defArgs sReaderSeen) (defBody sReaderSeen) (defScope sReaderSeen) .none kVReaderSeen dcReaderSeen pmReaderSeen anReaderSeen cdReaderSeen ctReaderSeen), slReaderSeen⟩) (cReaderSeen : PySem.W.codeIn K cdReaderSeen "Reader.seen" = true) (kReaderSeen : PySem.W.keepIn K (.ref aReaderSeen) = true)
    {odReaderPasses anReaderPasses : Option Addr} {slReaderPasses : Array (Option Value)} {ocReaderPasses kVReaderPasses dcReaderPasses pmReaderPasses cdReaderPasses ctReaderPasses : Value} {aReaderPasses : Addr}
    (me1ReaderPasses : PySem.W.findIn K (.ref aReader) "passes" = some (some (.ref aReaderPasses)))
    (me2ReaderPasses : PySem.W.isFn K (.ref aReaderPasses) = true)
    (lReaderPasses : K.lookup aReaderPasses = some ⟨ocReaderPasses, odReaderPasses, .func (PySem.W.fnOf "passes" "Reader.passes" (defArgs sReaderPasses) (defBody sReaderPasses) (defScope sReaderPasses) .none kVReaderPasses dcReaderPasses pmReaderPasses anReaderPasses cdReaderPasses ctReaderPasses), slReaderPasses⟩) (cReaderPasses : PySem.W.codeIn K cdReaderPasses "Reader.passes" = true) (kReaderPasses : PySem.W.keepIn K (.ref aReaderPasses) = true)
    {odIsNumber anIsNumber : Option Addr} {slIsNumber : Array (Option Value)} {ocIsNumber kVIsNumber dcIsNumber pmIsNumber ctIsNumber : Value} {aIsNumber cAIsNumber PIsNumber : Addr} {eIsNumber : Value} {ddIsNumber : Option Addr} {vsIsNumber : Array Value} {scIsNumber : Array (Option Value)}
    (xIsNumber : PySem.W.nsIn K mainGlobals "is_number" = some (some (.ref aIsNumber))) (lIsNumber : K.lookup aIsNumber = some ⟨ocIsNumber, odIsNumber, .func (PySem.W.fnOf "is_number" "is_number" (defArgs sIsNumber) (defBody sIsNumber) (defScope sIsNumber) .none kVIsNumber dcIsNumber pmIsNumber anIsNumber (.ref cAIsNumber) ctIsNumber), slIsNumber⟩) (cIsNumber : PySem.W.codeIn K (.ref cAIsNumber) "is_number" = true) (kIsNumber : PySem.W.keepIn K (.ref aIsNumber) = true)
    (t1IsNumber : K.lookup cAIsNumber = some ⟨eIsNumber, ddIsNumber, .fields vsIsNumber, scIsNumber⟩) (t2IsNumber : vsIsNumber[11]? = some (.ref PIsNumber)) (t3IsNumber : PySem.W.codeHdIn [(cAIsNumber, ⟨eIsNumber, ddIsNumber, .fields vsIsNumber, scIsNumber⟩)] cAIsNumber PIsNumber = true) (t4IsNumber : K.lookup PIsNumber = none)
    {odReaderRefuse anReaderRefuse : Option Addr} {slReaderRefuse : Array (Option Value)} {ocReaderRefuse kVReaderRefuse dcReaderRefuse pmReaderRefuse cdReaderRefuse ctReaderRefuse : Value} {aReaderRefuse : Addr}
    (me1ReaderRefuse : PySem.W.findIn K (.ref aReader) "refuse" = some (some (.ref aReaderRefuse)))
    (me2ReaderRefuse : PySem.W.isFn K (.ref aReaderRefuse) = true)
    (lReaderRefuse : K.lookup aReaderRefuse = some ⟨ocReaderRefuse, odReaderRefuse, .func (PySem.W.fnOf "refuse" "Reader.refuse" (defArgs sReaderRefuse) (defBody sReaderRefuse) (defScope sReaderRefuse) .none kVReaderRefuse dcReaderRefuse pmReaderRefuse anReaderRefuse cdReaderRefuse ctReaderRefuse), slReaderRefuse⟩) (cReaderRefuse : PySem.W.codeIn K cdReaderRefuse "Reader.refuse" = true) (kReaderRefuse : PySem.W.keepIn K (.ref aReaderRefuse) = true)
    {odReaderName anReaderName : Option Addr} {slReaderName : Array (Option Value)} {ocReaderName kVReaderName dcReaderName pmReaderName cdReaderName ctReaderName : Value} {aReaderName : Addr}
    (me1ReaderName : PySem.W.findIn K (.ref aReader) "name" = some (some (.ref aReaderName)))
    (me2ReaderName : PySem.W.isFn K (.ref aReaderName) = true)
    (lReaderName : K.lookup aReaderName = some ⟨ocReaderName, odReaderName, .func (PySem.W.fnOf "name" "Reader.name" (defArgs sReaderName) (defBody sReaderName) (defScope sReaderName) .none kVReaderName dcReaderName pmReaderName anReaderName cdReaderName ctReaderName), slReaderName⟩) (cReaderName : PySem.W.codeIn K cdReaderName "Reader.name" = true) (kReaderName : PySem.W.keepIn K (.ref aReaderName) = true)
    {odReaderPath anReaderPath : Option Addr} {slReaderPath : Array (Option Value)} {ocReaderPath kVReaderPath dcReaderPath pmReaderPath cdReaderPath ctReaderPath : Value} {aReaderPath : Addr}
    (me1ReaderPath : PySem.W.findIn K (.ref aReader) "path" = some (some (.ref aReaderPath)))
    (me2ReaderPath : PySem.W.isFn K (.ref aReaderPath) = true)
    (lReaderPath : K.lookup aReaderPath = some ⟨ocReaderPath, odReaderPath, .func (PySem.W.fnOf "path" "Reader.path" (defArgs sReaderPath) (defBody sReaderPath) (defScope sReaderPath) .none kVReaderPath dcReaderPath pmReaderPath anReaderPath cdReaderPath ctReaderPath), slReaderPath⟩) (cReaderPath : PySem.W.codeIn K cdReaderPath "Reader.path" = true) (kReaderPath : PySem.W.keepIn K (.ref aReaderPath) = true)
    {odReaderCondition anReaderCondition : Option Addr} {slReaderCondition : Array (Option Value)} {ocReaderCondition kVReaderCondition dcReaderCondition pmReaderCondition cdReaderCondition ctReaderCondition : Value} {aReaderCondition : Addr}
    (me1ReaderCondition : PySem.W.findIn K (.ref aReader) "condition" = some (some (.ref aReaderCondition)))
    (me2ReaderCondition : PySem.W.isFn K (.ref aReaderCondition) = true)
    (lReaderCondition : K.lookup aReaderCondition = some ⟨ocReaderCondition, odReaderCondition, .func (PySem.W.fnOf "condition" "Reader.condition" (defArgs sReaderCondition) (defBody sReaderCondition) (defScope sReaderCondition) .none kVReaderCondition dcReaderCondition pmReaderCondition anReaderCondition cdReaderCondition ctReaderCondition), slReaderCondition⟩) (cReaderCondition : PySem.W.codeIn K cdReaderCondition "Reader.condition" = true) (kReaderCondition : PySem.W.keepIn K (.ref aReaderCondition) = true)
    {odReaderFactor anReaderFactor : Option Addr} {slReaderFactor : Array (Option Value)} {ocReaderFactor kVReaderFactor dcReaderFactor pmReaderFactor cdReaderFactor ctReaderFactor : Value} {aReaderFactor : Addr}
    (me1ReaderFactor : PySem.W.findIn K (.ref aReader) "factor" = some (some (.ref aReaderFactor)))
    (me2ReaderFactor : PySem.W.isFn K (.ref aReaderFactor) = true)
    (lReaderFactor : K.lookup aReaderFactor = some ⟨ocReaderFactor, odReaderFactor, .func (PySem.W.fnOf "factor" "Reader.factor" (defArgs sReaderFactor) (defBody sReaderFactor) (defScope sReaderFactor) .none kVReaderFactor dcReaderFactor pmReaderFactor anReaderFactor cdReaderFactor ctReaderFactor), slReaderFactor⟩) (cReaderFactor : PySem.W.codeIn K cdReaderFactor "Reader.factor" = true) (kReaderFactor : PySem.W.keepIn K (.ref aReaderFactor) = true)
    {odReaderTerm anReaderTerm : Option Addr} {slReaderTerm : Array (Option Value)} {ocReaderTerm kVReaderTerm dcReaderTerm pmReaderTerm cdReaderTerm ctReaderTerm : Value} {aReaderTerm : Addr}
    (me1ReaderTerm : PySem.W.findIn K (.ref aReader) "term" = some (some (.ref aReaderTerm)))
    (me2ReaderTerm : PySem.W.isFn K (.ref aReaderTerm) = true)
    (lReaderTerm : K.lookup aReaderTerm = some ⟨ocReaderTerm, odReaderTerm, .func (PySem.W.fnOf "term" "Reader.term" (defArgs sReaderTerm) (defBody sReaderTerm) (defScope sReaderTerm) .none kVReaderTerm dcReaderTerm pmReaderTerm anReaderTerm cdReaderTerm ctReaderTerm), slReaderTerm⟩) (cReaderTerm : PySem.W.codeIn K cdReaderTerm "Reader.term" = true) (kReaderTerm : PySem.W.keepIn K (.ref aReaderTerm) = true)
    {odReaderExpression anReaderExpression : Option Addr} {slReaderExpression : Array (Option Value)} {ocReaderExpression kVReaderExpression dcReaderExpression pmReaderExpression cdReaderExpression ctReaderExpression : Value} {aReaderExpression : Addr}
    (me1ReaderExpression : PySem.W.findIn K (.ref aReader) "expression" = some (some (.ref aReaderExpression)))
    (me2ReaderExpression : PySem.W.isFn K (.ref aReaderExpression) = true)
    (lReaderExpression : K.lookup aReaderExpression = some ⟨ocReaderExpression, odReaderExpression, .func (PySem.W.fnOf "expression" "Reader.expression" (defArgs sReaderExpression) (defBody sReaderExpression) (defScope sReaderExpression) .none kVReaderExpression dcReaderExpression pmReaderExpression anReaderExpression cdReaderExpression ctReaderExpression), slReaderExpression⟩) (cReaderExpression : PySem.W.codeIn K cdReaderExpression "Reader.expression" = true) (kReaderExpression : PySem.W.keepIn K (.ref aReaderExpression) = true)
    {odReadExpression anReadExpression : Option Addr} {slReadExpression : Array (Option Value)} {ocReadExpression kVReadExpression dcReadExpression pmReadExpression cdReadExpression ctReadExpression : Value} {aReadExpression : Addr}
    (xReadExpression : PySem.W.nsIn K mainGlobals "read_expression" = some (some (.ref aReadExpression))) (lReadExpression : K.lookup aReadExpression = some ⟨ocReadExpression, odReadExpression, .func (PySem.W.fnOf "read_expression" "read_expression" (defArgs sReadExpression) (defBody sReadExpression) (defScope sReadExpression) .none kVReadExpression dcReadExpression pmReadExpression anReadExpression cdReadExpression ctReadExpression), slReadExpression⟩) (cReadExpression : PySem.W.codeIn K cdReadExpression "read_expression" = true) (kReadExpression : PySem.W.keepIn K (.ref aReadExpression) = true)
    {odLaw anLaw : Option Addr} {slLaw : Array (Option Value)} {ocLaw kVLaw dcLaw pmLaw cdLaw ctLaw : Value} {aLaw : Addr}
    (xLaw : PySem.W.nsIn K mainGlobals "law" = some (some (.ref aLaw))) (lLaw : K.lookup aLaw = some ⟨ocLaw, odLaw, .func (PySem.W.fnOf "law" "law" (defArgs sLaw) (defBody sLaw) (defScope sLaw) .none kVLaw dcLaw pmLaw anLaw cdLaw ctLaw), slLaw⟩) (cLaw : PySem.W.codeIn K cdLaw "law" = true) (kLaw : PySem.W.keepIn K (.ref aLaw) = true)
    {tg_DIGITS : Nat} (xg_DIGITS : PySem.W.nsIn K mainGlobals "DIGITS" = some (some (.str "0123456789" tg_DIGITS)))
    {tg_LETTERS : Nat} (xg_LETTERS : PySem.W.nsIn K mainGlobals "LETTERS" = some (some (.str "abcdefghijklmnopqrstuvwxyz" tg_LETTERS)))
    {tg_MOST_NUMBER : Nat} (xg_MOST_NUMBER : PySem.W.nsIn K mainGlobals "MOST_NUMBER" = some (some (.int 1000 tg_MOST_NUMBER)))
    {tg_LONGEST_WORD : Nat} (xg_LONGEST_WORD : PySem.W.nsIn K mainGlobals "LONGEST_WORD" = some (some (.int 8 tg_LONGEST_WORD)))
    {ag_RESERVED : Addr} {ng_RESERVED : Nat} {slg_RESERVED : Array (Option Value)} {t0_RESERVED t1_RESERVED t2_RESERVED t3_RESERVED : Nat} (xg_RESERVED : PySem.W.nsIn K mainGlobals "RESERVED" = some (some (.ref ag_RESERVED))) (lg_RESERVED : K.lookup ag_RESERVED = some ⟨.type "tuple", none, .seq #[.str "sum" t0_RESERVED, .str "where" t1_RESERVED, .str "in" t2_RESERVED, .str "and" t3_RESERVED] ng_RESERVED, slg_RESERVED⟩)
    {tg_MOST_NESTING : Nat} (xg_MOST_NESTING : PySem.W.nsIn K mainGlobals "MOST_NESTING" = some (some (.int 10 tg_MOST_NESTING)))
    (z_range : PySem.W.nsIn K mainGlobals "range" = some none)
    (z_int : PySem.W.nsIn K mainGlobals "int" = some none)
    (z_len : PySem.W.nsIn K mainGlobals "len" = some none)
    (z_tuple : PySem.W.nsIn K mainGlobals "tuple" = some none)
    (z_sorted : PySem.W.nsIn K mainGlobals "sorted" = some none)
    (z_min : PySem.W.nsIn K mainGlobals "min" = some none)
    (z_NB : VL.nbIn K = true)
    (z_str : PySem.W.nsIn K mainGlobals "str" = some none)
    (z_isinstance : PySem.W.nsIn K mainGlobals "isinstance" = some none)
    (z_bool : PySem.W.nsIn K mainGlobals "bool" = some none)
    (z_all : PySem.W.nsIn K mainGlobals "all" = some none)
    (z_max : PySem.W.nsIn K mainGlobals "max" = some none) :
    LamX.LawAtS l w K (L2N.CX l.prog w) 45 63 "_law_script" mg fa h := by
  have e := hfa.symm.trans (PySem.W.mg_of X G xLaw)
  cases e
  have ULawDigits := fun_mk (st := sLawDigits) lLawDigits cLawDigits kLawDigits
  have BLawDigits := ULawDigits.binds (ps := ["_law_cell_here", "_law_at"]) fun _ _ _ _ _ _ us hl => match us, hl with | [_, _], _ => rfl
  have ULawCell := fun_mk (st := sLawCell) lLawCell cLawCell kLawCell
  have BLawCell := ULawCell.binds (ps := ["_law_script", "_law_k"]) fun _ _ _ _ _ _ us hl => match us, hl with | [_, _], _ => rfl
  have ULawBox := fun_mk (st := sLawBox) lLawBox cLawBox kLawBox
  have BLawBox := ULawBox.binds (ps := ["_law_script", "_law_at"]) fun _ _ _ _ _ _ us hl => match us, hl with | [_, _], _ => rfl
  have ULawDraw := fun_mk (st := sLawDraw) lLawDraw cLawDraw kLawDraw
  have BLawDraw := ULawDraw.binds (ps := ["_law_box_here", "_law_many"]) fun _ _ _ _ _ _ us hl => match us, hl with | [_, _], _ => rfl
  have ULawWord := fun_mk (st := sLawWord) lLawWord cLawWord kLawWord
  have BLawWord := ULawWord.binds (ps := ["_law_box_here", "_law_taken"]) fun _ _ _ _ _ _ us hl => match us, hl with | [_, _], _ => rfl
  have ULawPlainLeaves := fun_mk (st := sLawPlainLeaves) lLawPlainLeaves cLawPlainLeaves kLawPlainLeaves
  have BLawPlainLeaves := ULawPlainLeaves.binds (ps := ["_law_depth", "_law_many"]) fun _ _ _ _ _ _ us hl => match us, hl with | [_, _], _ => rfl
  have ULawLeaves := fun_mk (st := sLawLeaves) lLawLeaves cLawLeaves kLawLeaves
  have BLawLeaves := ULawLeaves.binds (ps := ["_law_box_here", "_law_depth", "_law_many"]) fun _ _ _ _ _ _ us hl => match us, hl with | [_, _, _], _ => rfl
  have ULawWide := fun_mk (st := sLawWide) lLawWide cLawWide kLawWide
  have BLawWide := ULawWide.binds (ps := ["_law_script", "_law_first", "_law_cells_left"]) fun _ _ _ _ _ _ us hl => match us, hl with | [_, _, _], _ => rfl
  have ULawPrefix := fun_mk (st := sLawPrefix) lLawPrefix cLawPrefix kLawPrefix
  have BLawPrefix := ULawPrefix.binds (ps := ["_law_path", "_law_level_here"]) fun _ _ _ _ _ _ us hl => match us, hl with | [_, _], _ => rfl
  have ULawLevel := fun_mk (st := sLawLevel) lLawLevel cLawLevel kLawLevel
  have BLawLevel := ULawLevel.binds (ps := ["_law_path"]) fun _ _ _ _ _ _ us hl => match us, hl with | [_], _ => rfl
  have ULawACondition := fun_mk (st := sLawACondition) lLawACondition cLawACondition kLawACondition
  have BLawACondition := ULawACondition.binds (ps := ["_law_box_here", "_law_dimensions"]) fun _ _ _ _ _ _ us hl => match us, hl with | [_, _], _ => rfl
  have ULawTree := fun_mk (st := sLawTree) lLawTree cLawTree kLawTree
  have BLawTree := ULawTree.binds (ps := ["_law_box_here", "_law_dimensions", "_law_depth"]) fun _ _ _ _ _ _ us hl => match us, hl with | [_, _, _], _ => rfl
  have ULawGap := fun_mk (st := sLawGap) lLawGap cLawGap kLawGap
  have BLawGap := ULawGap.binds (ps := ["_law_box_here"]) fun _ _ _ _ _ _ us hl => match us, hl with | [_], _ => rfl
  have ULawConditionsText := fun_mk (st := sLawConditionsText) lLawConditionsText cLawConditionsText kLawConditionsText
  have BLawConditionsText := ULawConditionsText.binds (ps := ["_law_box_here", "_law_conditions"]) fun _ _ _ _ _ _ us hl => match us, hl with | [_, _], _ => rfl
  have ULawFactorText := fun_mk (st := sLawFactorText) lLawFactorText cLawFactorText kLawFactorText
  have BLawFactorText := ULawFactorText.binds (ps := ["_law_box_here", "_law_tree_here"]) fun _ _ _ _ _ _ us hl => match us, hl with | [_, _], _ => rfl
  have ULawTermText := fun_mk (st := sLawTermText) lLawTermText cLawTermText kLawTermText
  have BLawTermText := ULawTermText.binds (ps := ["_law_box_here", "_law_tree_here"]) fun _ _ _ _ _ _ us hl => match us, hl with | [_, _], _ => rfl
  have ULawTreeText := fun_mk (st := sLawTreeText) lLawTreeText cLawTreeText kLawTreeText
  have BLawTreeText := ULawTreeText.binds (ps := ["_law_box_here", "_law_tree_here"]) fun _ _ _ _ _ _ us hl => match us, hl with | [_, _], _ => rfl
  have ULawIsInteger := fun_mk (st := sLawIsInteger) lLawIsInteger cLawIsInteger kLawIsInteger
  have BLawIsInteger := ULawIsInteger.binds (ps := ["_law_actual"]) fun _ _ _ _ _ _ us hl => match us, hl with | [_], _ => rfl
  have ULawSame := fun_mk (st := sLawSame) lLawSame cLawSame kLawSame
  have BLawSame := ULawSame.binds (ps := ["_law_actual", "_law_due"]) fun _ _ _ _ _ _ us hl => match us, hl with | [_, _], _ => rfl
  have URunEnd := fun_mk (st := sRunEnd) lRunEnd cRunEnd kRunEnd
  have BRunEnd := URunEnd.binds (ps := ["text", "at", "signs"]) fun _ _ _ _ _ _ us hl => match us, hl with | [_, _, _], _ => rfl
  have UTokens := fun_mk (st := sTokens) lTokens cTokens kTokens
  have BTokens := UTokens.binds (ps := ["text"]) fun _ _ _ _ _ _ us hl => match us, hl with | [_], _ => rfl
  have UReaderInit := fun_mk (st := sReaderInit) lReaderInit cReaderInit kReaderInit
  have BReaderInit := UReaderInit.binds (ps := ["self", "text"]) fun _ _ _ _ _ _ us hl => match us, hl with | [_, _], _ => rfl
  have UReaderSeen := fun_mk (st := sReaderSeen) lReaderSeen cReaderSeen kReaderSeen
  have BReaderSeen := UReaderSeen.binds (ps := ["self"]) fun _ _ _ _ _ _ us hl => match us, hl with | [_], _ => rfl
  have UReaderPasses := fun_mk (st := sReaderPasses) lReaderPasses cReaderPasses kReaderPasses
  have BReaderPasses := UReaderPasses.binds (ps := ["self", "word"]) fun _ _ _ _ _ _ us hl => match us, hl with | [_, _], _ => rfl
  have UIsNumber := fun_mk (st := sIsNumber) lIsNumber cIsNumber kIsNumber
  have BIsNumber := UIsNumber.binds (ps := ["word"]) fun _ _ _ _ _ _ us hl => match us, hl with | [_], _ => rfl
  have VIsNumber : FunG K mg "is_number" sIsNumber ["word"] aIsNumber _ cAIsNumber := ⟨⟨_, _, _, _, _, _, _, _, _, ⟨rfl, rfl⟩, lIsNumber, cIsNumber⟩, PySem.W.mg_of X G xIsNumber, BIsNumber, UIsNumber.kp⟩
  have TkIsNumber := tabK_of (x := "is_number") X (own _ (by simp)) (PySem.W.mg_of X G xIsNumber) lIsNumber rfl rfl t1IsNumber t2IsNumber (VL.codeHd_mk t1IsNumber t3IsNumber) t4IsNumber
  have UReaderRefuse := fun_mk (st := sReaderRefuse) lReaderRefuse cReaderRefuse kReaderRefuse
  have BReaderRefuse := UReaderRefuse.binds (ps := ["self"]) fun _ _ _ _ _ _ us hl => match us, hl with | [_], _ => rfl
  have UReaderName := fun_mk (st := sReaderName) lReaderName cReaderName kReaderName
  have BReaderName := UReaderName.binds (ps := ["self"]) fun _ _ _ _ _ _ us hl => match us, hl with | [_], _ => rfl
  have UReaderPath := fun_mk (st := sReaderPath) lReaderPath cReaderPath kReaderPath
  have BReaderPath := UReaderPath.binds (ps := ["self"]) fun _ _ _ _ _ _ us hl => match us, hl with | [_], _ => rfl
  have UReaderCondition := fun_mk (st := sReaderCondition) lReaderCondition cReaderCondition kReaderCondition
  have BReaderCondition := UReaderCondition.binds (ps := ["self"]) fun _ _ _ _ _ _ us hl => match us, hl with | [_], _ => rfl
  have UReaderFactor := fun_mk (st := sReaderFactor) lReaderFactor cReaderFactor kReaderFactor
  have BReaderFactor := UReaderFactor.binds (ps := ["self", "level"]) fun _ _ _ _ _ _ us hl => match us, hl with | [_, _], _ => rfl
  have UReaderTerm := fun_mk (st := sReaderTerm) lReaderTerm cReaderTerm kReaderTerm
  have BReaderTerm := UReaderTerm.binds (ps := ["self", "level"]) fun _ _ _ _ _ _ us hl => match us, hl with | [_, _], _ => rfl
  have UReaderExpression := fun_mk (st := sReaderExpression) lReaderExpression cReaderExpression kReaderExpression
  have BReaderExpression := UReaderExpression.binds (ps := ["self", "level"]) fun _ _ _ _ _ _ us hl => match us, hl with | [_, _], _ => rfl
  have UReadExpression := fun_mk (st := sReadExpression) lReadExpression cReadExpression kReadExpression
  have BReadExpression := UReadExpression.binds (ps := ["text"]) fun _ _ _ _ _ _ us hl => match us, hl with | [_], _ => rfl
  have ULaw := fun_mk (st := sLaw) lLaw cLaw kLaw
  have BLaw := ULaw.binds (ps := ["_law_script"]) fun _ _ _ _ _ _ us hl => match us, hl with | [_], _ => rfl
  letI : CM := ⟨fun x => match mg x with | some (.ref a) => a | _ => 0, [], []⟩
  have at_Reader : CM.at_ "Reader" = aReader := by show (match mg "Reader" with | some (.ref a) => a | _ => 0) = aReader; rw [PySem.W.mg_of X G xReader]
  have at_FaultyText : CM.at_ "FaultyText" = aFaultyText := by show (match mg "FaultyText" with | some (.ref a) => a | _ => 0) = aFaultyText; rw [PySem.W.mg_of X G xFaultyText]
  have k_Reader : Cls K aReader := ⟨kc1Reader, kc2Reader, kc3Reader, kc4Reader⟩
  have IS_FaultyText : IsExc K "FaultyText" := VL.at_isx at_FaultyText ex2FaultyText ex4FaultyText ex5FaultyText ex6FaultyText ex7FaultyText ex8FaultyText ex9FaultyText exaFaultyText exvFaultyText excFaultyText exN0FaultyText exN1FaultyText exN2FaultyText (by intro Y hY; cases hY)
  have XI_FaultyText : XIn l.prog K aFaultyText aFaultyTextInit ccFaultyTextInit cAFaultyTextInit "FaultyText.__init__" "at" := ⟨VL.oex_of ex0FaultyText ex6FaultyText exsFaultyText ex2FaultyText ex3FaultyText ex1FaultyText, Option.isSome_iff_exists.mp excFaultyText, exSFaultyText, exvFaultyText, exMFaultyText, exN1FaultyText, ⟨_, _, _, clFaultyTextInit⟩, ⟨_, _, _, _, _, _, t1FaultyTextInit, t2FaultyTextInit, tflFaultyTextInit⟩, crFaultyTextInit, zsuper, zany, ztop⟩
  have EF_FaultyText : ∀ base : Heap, ExcF l.prog w K mg base "FaultyText" "at" := fun base => VL.excF_mk (x := "at") at_FaultyText (PySem.W.mg_of X G xFaultyText) IS_FaultyText XI_FaultyText me1FaultyTextInit tiFaultyTextInit lFaultyTextInit (NdefX.nscope_by (by decide +kernel)) rfl rfl (PySem.W.mg_none_of X G zsuper) (by first | rfl | decide +kernel) (by decide) (by decide) (fun env => rfl) rfl (Binds.all fun us hl => match us, hl with | [_, _], _ => rfl)
  refine ⟨PySem.W.fnOf "law" "law" (defArgs sLaw) (defBody sLaw) (defScope sLaw) .none kVLaw dcLaw pmLaw anLaw cdLaw ctLaw, ([(cAIsNumber, PIsNumber)] : List (Addr × Addr)), spOf K (([(cAIsNumber, PIsNumber)] : List (Addr × Addr)).map (·.2)) (spF F_law_k09), ?_, ?_, ?_, fun s v => .of_eq rfl, fun H a ns hl _ hH hS => law_startT (law_true ns hl) hH hS, fun base _ _ TB => ok_all ⟨ULawDigits, PySem.W.mg_of X G xLawDigits, BLawDigits⟩ ⟨ULawCell, PySem.W.mg_of X G xLawCell, BLawCell⟩ ⟨ULawBox, PySem.W.mg_of X G xLawBox, BLawBox⟩ ⟨ULawDraw, PySem.W.mg_of X G xLawDraw, BLawDraw⟩ ⟨ULawWord, PySem.W.mg_of X G xLawWord, BLawWord⟩ ⟨ULawPlainLeaves, PySem.W.mg_of X G xLawPlainLeaves, BLawPlainLeaves⟩ ⟨ULawLeaves, PySem.W.mg_of X G xLawLeaves, BLawLeaves⟩ ⟨ULawWide, PySem.W.mg_of X G xLawWide, BLawWide⟩ ⟨ULawPrefix, PySem.W.mg_of X G xLawPrefix, BLawPrefix⟩ ⟨ULawLevel, PySem.W.mg_of X G xLawLevel, BLawLevel⟩ ⟨ULawACondition, PySem.W.mg_of X G xLawACondition, BLawACondition⟩ ⟨ULawTree, PySem.W.mg_of X G xLawTree, BLawTree⟩ ⟨ULawGap, PySem.W.mg_of X G xLawGap, BLawGap⟩ ⟨ULawConditionsText, PySem.W.mg_of X G xLawConditionsText, BLawConditionsText⟩ ⟨ULawFactorText, PySem.W.mg_of X G xLawFactorText, BLawFactorText⟩ ⟨ULawTermText, PySem.W.mg_of X G xLawTermText, BLawTermText⟩ ⟨ULawTreeText, PySem.W.mg_of X G xLawTreeText, BLawTreeText⟩ ⟨ULawIsInteger, PySem.W.mg_of X G xLawIsInteger, BLawIsInteger⟩ ⟨ULawSame, PySem.W.mg_of X G xLawSame, BLawSame⟩ ⟨URunEnd, PySem.W.mg_of X G xRunEnd, BRunEnd⟩ ⟨UTokens, PySem.W.mg_of X G xTokens, BTokens⟩ (VL.at_funI at_Reader UReaderInit k_Reader (PySem.W.mg_of X G xReader) mk1ReaderInit me1ReaderInit me2ReaderInit mk4ReaderInit BReaderInit) (VL.at_funM at_Reader UReaderSeen k_Reader me1ReaderSeen me2ReaderSeen BReaderSeen) (VL.at_funM at_Reader UReaderPasses k_Reader me1ReaderPasses me2ReaderPasses BReaderPasses) VIsNumber (VL.tbG (TB (cAIsNumber, PIsNumber) (by simp))) ⟨by simp, rfl⟩ (VL.at_funM at_Reader UReaderRefuse k_Reader me1ReaderRefuse me2ReaderRefuse BReaderRefuse) (VL.at_funM at_Reader UReaderName k_Reader me1ReaderName me2ReaderName BReaderName) (VL.at_funM at_Reader UReaderPath k_Reader me1ReaderPath me2ReaderPath BReaderPath) (VL.at_funM at_Reader UReaderCondition k_Reader me1ReaderCondition me2ReaderCondition BReaderCondition) (VL.at_funM at_Reader UReaderFactor k_Reader me1ReaderFactor me2ReaderFactor BReaderFactor) (VL.at_funM at_Reader UReaderTerm k_Reader me1ReaderTerm me2ReaderTerm BReaderTerm) (VL.at_funM at_Reader UReaderExpression k_Reader me1ReaderExpression me2ReaderExpression BReaderExpression) ⟨UReadExpression, PySem.W.mg_of X G xReadExpression, BReadExpression⟩ ⟨ULaw, PySem.W.mg_of X G xLaw, BLaw⟩ (VL.at_cls at_Reader k_Reader) (VL.at_no at_Reader na_Reader_at) (VL.at_no at_Reader na_Reader_words) (EF_FaultyText base) (PySem.W.mg_none_of X G z_range) (PySem.W.mg_none_of X G z_int) (PySem.W.mg_none_of X G z_len) (PySem.W.mg_none_of X G z_tuple) (PySem.W.mg_none_of X G z_sorted) (PySem.W.mg_none_of X G z_min) z_NB (PySem.W.mg_none_of X G z_str) (PySem.W.mg_none_of X G z_isinstance) (PySem.W.mg_none_of X G z_bool) (PySem.W.mg_none_of X G z_all) (PySem.W.mg_none_of X G z_max) (VL.glob_str (PySem.W.mg_of X G xg_DIGITS)) (VL.glob_str (PySem.W.mg_of X G xg_LETTERS)) (VL.glob_int (PySem.W.mg_of X G xg_MOST_NUMBER)) (VL.glob_int (PySem.W.mg_of X G xg_LONGEST_WORD)) (VL.glob_tup [.str "sum", .str "where", .str "in", .str "and"] (PySem.W.mg_of X G xg_RESERVED) lg_RESERVED (by simp) (show 4 ≤ sizeLine by decide) (.cons ⟨_, rfl⟩ (.cons ⟨_, rfl⟩ (.cons ⟨_, rfl⟩ (.cons ⟨_, rfl⟩ .nil))))) (VL.glob_int (PySem.W.mg_of X G xg_MOST_NESTING))⟩
  · exact fun p hp => by
      simp only [List.mem_cons, List.not_mem_nil, or_false] at hp
      rcases hp with rfl
      · exact TkIsNumber.tab
  · exact fun p hp => by
      simp only [List.mem_cons, List.not_mem_nil, or_false] at hp
      rcases hp with rfl
      · exact TkIsNumber.nil
  · exact fun p hp => by
      simp only [List.mem_cons, List.not_mem_nil, or_false] at hp
      rcases hp with rfl
      · exact TkIsNumber.hd
end K09
open PySem PySem.W PyProof.Rows
set_option maxHeartbeats 0 in
theorem PySem.Challenge.cw_cubesums_k09_expressions_read_holds : PySem.Challenge.rw_cubesums_k09_expressions_read.Holds := by
  w_on; o_law; k_head; (case hw => w_witness2)
  k_fill
  refine VL.walk_ofTabs (l := PySem.Challenge.rw_cubesums_k09_expressions_read) (n := 63) (k := 45) (x := "_law_script") (CX := fun w => L2N.CX PySem.Challenge.rw_cubesums_k09_expressions_read.prog w) ["is_number"] rfl (by decide) rfl ⟨rfl, by decide, by decide⟩ (by decide +kernel) (fun w h Y => by first | exact PySem.W.kIn_of Y | exact PySem.W.km_in_of Y) ?F ?hCX
  case hCX => exact (letI : VL.CM := ⟨fun _ => 0, [], []⟩; fun _ _ _ _ _ h => VL.cx_none h)
  case F =>
    intro w mg fa h _ KX G hmg own
    refine' K09.all_mk KX G hmg own ?xReader ?xFaultyText ?kc1Reader ?kc2Reader ?kc3Reader ?kc4Reader ?na_Reader_at ?na_Reader_words ?zsuper ?zany ?ztop ?ex0FaultyText ?ex1FaultyText ?ex2FaultyText ?ex3FaultyText ?ex4FaultyText ?ex5FaultyText ?ex6FaultyText ?ex7FaultyText ?ex8FaultyText ?ex9FaultyText ?exvFaultyText ?exaFaultyText ?excFaultyText ?exN0FaultyText ?exN1FaultyText ?exN2FaultyText ?exsFaultyText ?exSFaultyText ?exMFaultyText ?me1FaultyTextInit ?tiFaultyTextInit ?lFaultyTextInit ?clFaultyTextInit ?t1FaultyTextInit ?t2FaultyTextInit ?tflFaultyTextInit ?crFaultyTextInit ?xLawDigits ?lLawDigits ?cLawDigits ?kLawDigits ?xLawCell ?lLawCell ?cLawCell ?kLawCell ?xLawBox ?lLawBox ?cLawBox ?kLawBox ?xLawDraw ?lLawDraw ?cLawDraw ?kLawDraw ?xLawWord ?lLawWord ?cLawWord ?kLawWord ?xLawPlainLeaves ?lLawPlainLeaves ?cLawPlainLeaves ?kLawPlainLeaves ?xLawLeaves ?lLawLeaves ?cLawLeaves ?kLawLeaves ?xLawWide ?lLawWide ?cLawWide ?kLawWide ?xLawPrefix ?lLawPrefix ?cLawPrefix ?kLawPrefix ?xLawLevel ?lLawLevel ?cLawLevel ?kLawLevel ?xLawACondition ?lLawACondition ?cLawACondition ?kLawACondition ?xLawTree ?lLawTree ?cLawTree ?kLawTree ?xLawGap ?lLawGap ?cLawGap ?kLawGap ?xLawConditionsText ?lLawConditionsText ?cLawConditionsText ?kLawConditionsText ?xLawFactorText ?lLawFactorText ?cLawFactorText ?kLawFactorText ?xLawTermText ?lLawTermText ?cLawTermText ?kLawTermText ?xLawTreeText ?lLawTreeText ?cLawTreeText ?kLawTreeText ?xLawIsInteger ?lLawIsInteger ?cLawIsInteger ?kLawIsInteger ?xLawSame ?lLawSame ?cLawSame ?kLawSame ?xRunEnd ?lRunEnd ?cRunEnd ?kRunEnd ?xTokens ?lTokens ?cTokens ?kTokens ?me1ReaderInit ?me2ReaderInit ?lReaderInit ?cReaderInit ?kReaderInit ?mk1ReaderInit ?mk4ReaderInit ?me1ReaderSeen ?me2ReaderSeen ?lReaderSeen ?cReaderSeen ?kReaderSeen ?me1ReaderPasses ?me2ReaderPasses ?lReaderPasses ?cReaderPasses ?kReaderPasses ?xIsNumber ?lIsNumber ?cIsNumber ?kIsNumber ?t1IsNumber ?t2IsNumber ?t3IsNumber ?t4IsNumber ?me1ReaderRefuse ?me2ReaderRefuse ?lReaderRefuse ?cReaderRefuse ?kReaderRefuse ?me1ReaderName ?me2ReaderName ?lReaderName ?cReaderName ?kReaderName ?me1ReaderPath ?me2ReaderPath ?lReaderPath ?cReaderPath ?kReaderPath ?me1ReaderCondition ?me2ReaderCondition ?lReaderCondition ?cReaderCondition ?kReaderCondition ?me1ReaderFactor ?me2ReaderFactor ?lReaderFactor ?cReaderFactor ?kReaderFactor ?me1ReaderTerm ?me2ReaderTerm ?lReaderTerm ?cReaderTerm ?kReaderTerm ?me1ReaderExpression ?me2ReaderExpression ?lReaderExpression ?cReaderExpression ?kReaderExpression ?xReadExpression ?lReadExpression ?cReadExpression ?kReadExpression ?xLaw ?lLaw ?cLaw ?kLaw ?xg_DIGITS ?xg_LETTERS ?xg_MOST_NUMBER ?xg_LONGEST_WORD ?xg_RESERVED ?lg_RESERVED ?xg_MOST_NESTING ?z_range ?z_int ?z_len ?z_tuple ?z_sorted ?z_min ?z_NB ?z_str ?z_isinstance ?z_bool ?z_all ?z_max
    (case xReader => k_is); (case xFaultyText => k_is); (case kc1Reader => k_is); (case kc2Reader => k_is); (case kc3Reader => k_is); (case kc4Reader => k_is); (case na_Reader_at => k_is); (case na_Reader_words => k_is); (case zsuper => k_is); (case zany => k_is); (case ztop => first | rfl | decide +kernel); (case ex0FaultyText => kx_is); (case ex1FaultyText => k_is); (case ex2FaultyText => k_is); (case ex3FaultyText => k_is); (case ex4FaultyText => k_is); (case ex5FaultyText => k_is); (case ex6FaultyText => k_is); (case ex7FaultyText => k_is); (case ex8FaultyText => k_is); (case ex9FaultyText => k_is); (case exvFaultyText => k_is); (case exaFaultyText => k_is); (case excFaultyText => k_is); (case exN0FaultyText => k_is); (case exN1FaultyText => k_is); (case exN2FaultyText => k_is); (case exsFaultyText => k_is); (case exSFaultyText => ks_is); (case exMFaultyText => k_is); (case me1FaultyTextInit => k_is); (case tiFaultyTextInit => k_is); (case lFaultyTextInit => k_is); (case clFaultyTextInit => k_is); (case t1FaultyTextInit => k_is); (case t2FaultyTextInit => rfl); (case tflFaultyTextInit => first | rfl | decide +kernel); (case crFaultyTextInit => k_is); (case xLawDigits => k_is); (case lLawDigits => k_is); (case cLawDigits => k_is); (case kLawDigits => k_is); (case xLawCell => k_is); (case lLawCell => k_is); (case cLawCell => k_is); (case kLawCell => k_is); (case xLawBox => k_is); (case lLawBox => k_is); (case cLawBox => k_is); (case kLawBox => k_is); (case xLawDraw => k_is); (case lLawDraw => k_is); (case cLawDraw => k_is); (case kLawDraw => k_is); (case xLawWord => k_is); (case lLawWord => k_is); (case cLawWord => k_is); (case kLawWord => k_is); (case xLawPlainLeaves => k_is); (case lLawPlainLeaves => k_is); (case cLawPlainLeaves => k_is); (case kLawPlainLeaves => k_is); (case xLawLeaves => k_is); (case lLawLeaves => k_is); (case cLawLeaves => k_is); (case kLawLeaves => k_is); (case xLawWide => k_is); (case lLawWide => k_is); (case cLawWide => k_is); (case kLawWide => k_is); (case xLawPrefix => k_is); (case lLawPrefix => k_is); (case cLawPrefix => k_is); (case kLawPrefix => k_is); (case xLawLevel => k_is); (case lLawLevel => k_is); (case cLawLevel => k_is); (case kLawLevel => k_is); (case xLawACondition => k_is); (case lLawACondition => k_is); (case cLawACondition => k_is); (case kLawACondition => k_is); (case xLawTree => k_is); (case lLawTree => k_is); (case cLawTree => k_is); (case kLawTree => k_is); (case xLawGap => k_is); (case lLawGap => k_is); (case cLawGap => k_is); (case kLawGap => k_is); (case xLawConditionsText => k_is); (case lLawConditionsText => k_is); (case cLawConditionsText => k_is); (case kLawConditionsText => k_is); (case xLawFactorText => k_is); (case lLawFactorText => k_is); (case cLawFactorText => k_is); (case kLawFactorText => k_is); (case xLawTermText => k_is); (case lLawTermText => k_is); (case cLawTermText => k_is); (case kLawTermText => k_is); (case xLawTreeText => k_is); (case lLawTreeText => k_is); (case cLawTreeText => k_is); (case kLawTreeText => k_is); (case xLawIsInteger => k_is); (case lLawIsInteger => k_is); (case cLawIsInteger => k_is); (case kLawIsInteger => k_is); (case xLawSame => k_is); (case lLawSame => k_is); (case cLawSame => k_is); (case kLawSame => k_is); (case xRunEnd => k_is); (case lRunEnd => k_is); (case cRunEnd => k_is); (case kRunEnd => k_is); (case xTokens => k_is); (case lTokens => k_is); (case cTokens => k_is); (case kTokens => k_is); (case me1ReaderInit => k_is); (case me2ReaderInit => k_is); (case lReaderInit => k_is); (case cReaderInit => k_is); (case kReaderInit => k_is); (case mk1ReaderInit => k_is); (case mk4ReaderInit => k_is); (case me1ReaderSeen => k_is); (case me2ReaderSeen => k_is); (case lReaderSeen => k_is); (case cReaderSeen => k_is); (case kReaderSeen => k_is); (case me1ReaderPasses => k_is); (case me2ReaderPasses => k_is); (case lReaderPasses => k_is); (case cReaderPasses => k_is); (case kReaderPasses => k_is); (case xIsNumber => k_is); (case lIsNumber => k_is); (case cIsNumber => k_is); (case kIsNumber => k_is); (case t1IsNumber => k_is); (case t2IsNumber => rfl); (case t3IsNumber => rfl); (case t4IsNumber => rfl); (case me1ReaderRefuse => k_is); (case me2ReaderRefuse => k_is); (case lReaderRefuse => k_is); (case cReaderRefuse => k_is); (case kReaderRefuse => k_is); (case me1ReaderName => k_is); (case me2ReaderName => k_is); (case lReaderName => k_is); (case cReaderName => k_is); (case kReaderName => k_is); (case me1ReaderPath => k_is); (case me2ReaderPath => k_is); (case lReaderPath => k_is); (case cReaderPath => k_is); (case kReaderPath => k_is); (case me1ReaderCondition => k_is); (case me2ReaderCondition => k_is); (case lReaderCondition => k_is); (case cReaderCondition => k_is); (case kReaderCondition => k_is); (case me1ReaderFactor => k_is); (case me2ReaderFactor => k_is); (case lReaderFactor => k_is); (case cReaderFactor => k_is); (case kReaderFactor => k_is); (case me1ReaderTerm => k_is); (case me2ReaderTerm => k_is); (case lReaderTerm => k_is); (case cReaderTerm => k_is); (case kReaderTerm => k_is); (case me1ReaderExpression => k_is); (case me2ReaderExpression => k_is); (case lReaderExpression => k_is); (case cReaderExpression => k_is); (case kReaderExpression => k_is); (case xReadExpression => k_is); (case lReadExpression => k_is); (case cReadExpression => k_is); (case kReadExpression => k_is); (case xLaw => k_is); (case lLaw => k_is); (case cLaw => k_is); (case kLaw => k_is); (case xg_DIGITS => k_is); (case xg_LETTERS => k_is); (case xg_MOST_NUMBER => k_is); (case xg_LONGEST_WORD => k_is); (case xg_RESERVED => k_is); (case lg_RESERVED => k_is); (case xg_MOST_NESTING => k_is); (case z_range => k_is); (case z_int => k_is); (case z_len => k_is); (case z_tuple => k_is); (case z_sorted => k_is); (case z_min => k_is); (case z_NB => first | rfl | decide +kernel | k_is); (case z_str => k_is); (case z_isinstance => k_is); (case z_bool => k_is); (case z_all => k_is); (case z_max => k_is)
